import PyProof.Rows.All
import Wide.All
import OpenK.AllK
import Wide.FinOn
import HandS.ForMost
import HandS.Wide
import PyProof.Rows.IntBool
import HandS.Style
import HandS.IsInst
import HandS.Conv
import HandS.SortInts
import HandS.Zip
import HandS.EndBits
import PyProof.Rows.NestShow
import HandS.TupMul
import PyProof.NeKinds
import PyProof.FitsInt
import HandS.TupSets
import HandS.TupAny
import PyProof.StrLawsRepr
import HandS.Iter
import KE.GoesEnum
import KE.GoesNew
import HandS.Small
import HandS.More
import KE.KDictKeyed
import HandS.SortRule
import PyProof.CallStr
import HandS.NoneIn
import HandS.Deep
import HandS.Strs
import PyProof.Rows.SetFrom
import PySem.Challenge.RW_rimplans_k60_heights_without_last_step
set_option Elab.async false
set_option linter.all false
set_option maxRecDepth 100000
set_option maxHeartbeats 4000000
namespace VL
open PySem PySem.Spec PyProof.Rows L2

abbrev Fg := PySem.W.Frag

/-- data, without the heap; scr: the locked list of ints that the law is handed; opq: any value, not looked into; pdc: a dict whose keys are pairs of ints -/
inductive D where
  | non | bl (b : Bool) | int (i : Int) | str (x : Str) | opq (v : V) | scr (ns : List Int)
  | pdc (ks : List (Int × Int)) (vs : List D)
  | tup (xs : List D) | lst (xs : List D) | dct (ks vs : List D)
  /-- an exception: its class, the names and values of its fields -/
  | exc (c : Value) (ns : List Str) (xs : List D)

def kD : Key → D
  | .inl i => .int i
  | .inr x => .str x

/-- a dict at p: its keys as data, its values -/
def DctAt (H : Hp) (p : Addr) (ks : List D) (vs : List V) : Prop :=
  (∃ l : List (Key × V), H p = some (.dK l) ∧ ks = l.map (fun x => kD x.1) ∧ vs = l.map (fun x => x.2)) ∨
  (∃ l : List (List Key × V), H p = some (.dT l) ∧ l ≠ [] ∧ ks = l.map (fun x => .tup (x.1.map kD)) ∧ vs = l.map (fun x => x.2))

/-- a dict at p whose object is known, its keys tracked pairs -/
def DctZ (F : Hp) (p : Addr) (ks : List (Int × Int)) (vs : List V) : Prop :=
  ∃ (o : Obj) (es : Array DictEntry) (ep : Nat) (bs : List Addr), F p = some (.frz o (.dT ((ks.zip vs).map fun x => ([.inl x.1.1, .inl x.1.2], x.2)))) ∧ ks.length = vs.length ∧
    o.data = .dict es ep ∧ es.toList.map (·.key) = bs.map Value.ref ∧ Paired (fun (k : Int × Int) b => F b = some (.tup [.int k.1, .int k.2])) ks bs
theorem DctZ.mono {F F' : Hp} {p : Addr} {ks : List (Int × Int)} {vs : List V} (s : Same F F') (h : DctZ F p ks vs) : DctZ F' p ks vs := by
  obtain ⟨o, es, ep, bs, h1, h2, h3, h4, h5⟩ := h
  exact ⟨o, es, ep, bs, s _ _ h1, h2, h3, h4, Paired.mapP h5 fun _ _ z => s _ _ z⟩

/-- a tuple at p: tracked, or of the written part -/
def TupAt (K : Fg) (F : Hp) (p : Addr) (vs : List V) : Prop := F p = some (.tup vs) ∨ ∃ (o : Obj) (its : Array Value) (n : Nat), K.lookup p = some o ∧ o.cls = .type "tuple" ∧ o.data = .seq its n ∧ its.size ≤ sizeLine ∧ Vals vs its.toList
theorem TupAt.sq {K : Fg} {F H : Hp} {p : Addr} {vs : List V} (h : TupAt K F p vs) (s : Same F H) : SqT K H p vs := by
  rcases h with h | h
  · exact .inl (.inl (s _ _ h))
  · exact .inr h
theorem TupAt.mono {K : Fg} {F H : Hp} {p : Addr} {vs : List V} (s : Same F H) (h : TupAt K F p vs) : TupAt K H p vs := by
  rcases h with h | h
  · exact .inl (s _ _ h)
  · exact .inr h
/-- an exception's object at p: its class, its dict -/
def ExcO (p : Addr) (c : Value) (x : Option Addr) : Heap → Prop := fun h => ∃ o vs, h.get? p = some o ∧ o.cls = c ∧ o.dict = x ∧ o.data = .fields vs
def ExcAt (F : Hp) (p : Addr) (c : Value) (ns : List Str) (vs : List V) : Prop := ∃ φ x, F p = some (.ext φ) ∧ (∀ h, φ h → ExcO p c x h) ∧ ((ns = [] ∧ vs = [] ∧ x = none) ∨ ∃ dx, ns ≠ [] ∧ x = some dx ∧ F dx = some (.xd (ns.zip vs)))
theorem ExcAt.mono {F F' : Hp} {p : Addr} {c : Value} {ns : List Str} {vs : List V} (s : Same F F') : ExcAt F p c ns vs → ExcAt F' p c ns vs := fun ⟨φ, x, h, h2, q⟩ =>
  ⟨φ, x, s _ _ h, h2, q.imp (fun z => z) fun ⟨dx, n0, e, z⟩ => ⟨dx, n0, e, s _ _ z⟩⟩
mutual
def Rep (K : Fg) (F : Hp) : D → V → Prop
  | .non, v => v = .non
  | .bl b, v => v = .bl b
  | .int i, v => v = .int i
  | .str x, v => v = .str x
  | .opq u, v => v = u
  | .scr ns, v => ∃ p, v = .ref p ∧ SqL K F p (ns.map V.int)
  | .pdc ks ds, v => ∃ p vs, v = .ref p ∧ DctZ F p ks vs ∧ Reps K F ds vs
  | .tup ds, v => ∃ p vs, v = .ref p ∧ TupAt K F p vs ∧ Reps K F ds vs
  | .lst ds, v => ∃ p vs, v = .ref p ∧ F p = some (.lst vs) ∧ Reps K F ds vs
  | .dct ks ds, v => ∃ p vs, v = .ref p ∧ DctAt F p ks vs ∧ Reps K F ds vs
  | .exc c ns ds, v => ∃ p vs, v = .ref p ∧ ExcAt F p c ns vs ∧ Reps K F ds vs
def Reps (K : Fg) (F : Hp) : List D → List V → Prop
  | [], vs => vs = []
  | d :: ds, vs => ∃ v r, vs = v :: r ∧ Rep K F d v ∧ Reps K F ds r
end

theorem Rd.mono {F F' : Hp} (s : Same F F') {a : Addr} {u : HO} (h : Rd F a u) : Rd F' a u := by
  rcases h with h | ⟨o, h⟩
  · exact .inl (s _ _ h)
  · exact .inr ⟨o, s _ _ h⟩
theorem SqL.mono {K : Fg} {F F' : Hp} (s : Same F F') {a : Addr} {u : List V} (h : SqL K F a u) : SqL K F' a u := by
  rcases h with h | h
  · exact .inl (Rd.mono s h)
  · exact .inr h
theorem DctAt.mono {F F' : Hp} {p : Addr} {ks : List D} {vs : List V} (s : ∀ o, F p = some o → F' p = some o) (h : DctAt F p ks vs) : DctAt F' p ks vs := by
  rcases h with ⟨l, h, e⟩ | ⟨l, h, e⟩
  · exact .inl ⟨l, s _ h, e⟩
  · exact .inr ⟨l, s _ h, e⟩

mutual
theorem Rep.mono {K : Fg} {F F' : Hp} (s : Same F F') : ∀ (d : D) (v : V), Rep K F d v → Rep K F' d v
  | .non, _, h => h
  | .bl _, _, h => h
  | .int _, _, h => h
  | .str _, _, h => h
  | .opq _, _, h => h
  | .scr _, _, ⟨p, e, h⟩ => ⟨p, e, SqL.mono s h⟩
  | .pdc ks ds, _, ⟨p, vs, e, h, r⟩ => ⟨p, vs, e, h.mono s, Reps.mono s ds vs r⟩
  | .tup ds, _, ⟨p, vs, e, h, r⟩ => ⟨p, vs, e, h.mono s, Reps.mono s ds vs r⟩
  | .lst ds, _, ⟨p, vs, e, h, r⟩ => ⟨p, vs, e, s _ _ h, Reps.mono s ds vs r⟩
  | .dct ks ds, _, ⟨p, vs, e, h, r⟩ => ⟨p, vs, e, h.mono (s p), Reps.mono s ds vs r⟩
  | .exc c ns ds, _, ⟨p, vs, e, h, r⟩ => ⟨p, vs, e, h.mono s, Reps.mono s ds vs r⟩
theorem Reps.mono {K : Fg} {F F' : Hp} (s : Same F F') : ∀ (ds : List D) (vs : List V), Reps K F ds vs → Reps K F' ds vs
  | [], _, h => h
  | d :: ds, _, ⟨v, r, e, h, t⟩ => ⟨v, r, e, Rep.mono s d v h, Reps.mono s ds r t⟩
end

theorem Reps.length {K : Fg} {F : Hp} : ∀ {ds : List D} {vs : List V}, Reps K F ds vs → vs.length = ds.length
  | [], _, h => by cases h; rfl
  | d :: ds, _, ⟨v, r, e, _, t⟩ => by subst e; simp [Reps.length t]
theorem Reps.get {K : Fg} {F : Hp} : ∀ {ds : List D} {vs : List V} {i : Nat} {d : D}, Reps K F ds vs → ds[i]? = some d → ∃ v, vs[i]? = some v ∧ Rep K F d v
  | [], _, _, _, _, e => by simp at e
  | d :: ds, _, 0, _, ⟨v, r, e, h, t⟩, q => by
    subst e
    simp at q
    subst q
    exact ⟨v, rfl, h⟩
  | d :: ds, _, i + 1, _, ⟨v, r, e, h, t⟩, q => by
    subst e
    simpa using Reps.get (i := i) t (by simpa using q)
theorem Reps.append {K : Fg} {F : Hp} : ∀ {ds es : List D} {vs us : List V}, Reps K F ds vs → Reps K F es us → Reps K F (ds ++ es) (vs ++ us)
  | [], _, _, _, h, q => by cases h; exact q
  | d :: ds, _, _, _, ⟨v, r, e, h, t⟩, q => by subst e; exact ⟨v, r ++ _, rfl, h, Reps.append t q⟩
theorem Reps.one {K : Fg} {F : Hp} {d : D} {v : V} (h : Rep K F d v) : Reps K F [d] [v] := ⟨v, [], rfl, h, rfl⟩
theorem Reps.take {K : Fg} {F : Hp} : ∀ {ds : List D} {vs : List V} (n : Nat), Reps K F ds vs → Reps K F (ds.take n) (vs.take n)
  | [], _, n, h => by cases h; simp; exact rfl
  | d :: ds, _, 0, h => by simp; exact rfl
  | d :: ds, _, n + 1, ⟨v, r, e, h, t⟩ => by subst e; exact ⟨v, _, rfl, h, Reps.take n t⟩
theorem Reps.drop {K : Fg} {F : Hp} : ∀ {ds : List D} {vs : List V} (n : Nat), Reps K F ds vs → Reps K F (ds.drop n) (vs.drop n)
  | [], _, n, h => by cases h; simp; exact rfl
  | d :: ds, _, 0, h => h
  | d :: ds, _, n + 1, ⟨v, r, e, h, t⟩ => by subst e; exact Reps.drop n t
theorem Reps.set {K : Fg} {F : Hp} {d' : D} {v' : V} (h' : Rep K F d' v') : ∀ {ds : List D} {vs : List V} (i : Nat), Reps K F ds vs → Reps K F (ds.set i d') (vs.set i v')
  | [], _, i, h => by cases h; simp; exact rfl
  | d :: ds, _, 0, ⟨v, r, e, h, t⟩ => by subst e; exact ⟨v', r, rfl, h', t⟩
  | d :: ds, _, i + 1, ⟨v, r, e, h, t⟩ => by subst e; exact ⟨v, _, rfl, h, Reps.set h' i t⟩
theorem Reps.eraseIdx {K : Fg} {F : Hp} : ∀ {ds : List D} {vs : List V} (i : Nat), Reps K F ds vs → Reps K F (ds.eraseIdx i) (vs.eraseIdx i)
  | [], _, i, h => by cases h; simp; exact rfl
  | d :: ds, _, 0, ⟨v, r, e, h, t⟩ => by subst e; exact t
  | d :: ds, _, i + 1, ⟨v, r, e, h, t⟩ => by subst e; exact ⟨v, _, rfl, h, Reps.eraseIdx i t⟩
theorem Reps.reverse {K : Fg} {F : Hp} : ∀ {ds : List D} {vs : List V}, Reps K F ds vs → Reps K F ds.reverse vs.reverse
  | [], _, h => by cases h; simp; exact rfl
  | d :: ds, _, ⟨v, r, e, h, t⟩ => by
    subst e
    rw [List.reverse_cons, List.reverse_cons]
    exact Reps.append (Reps.reverse t) (Reps.one h)
/-! ### what is owned: k levels of lists at addresses of their own -/
def OwnL (R : D → V → List Addr → Prop) : List D → List V → List Addr → Prop
  | [], vs, fp => vs = [] ∧ fp = []
  | d :: ds, vs, fp => ∃ v r f1 f2, vs = v :: r ∧ fp = f1 ++ f2 ∧ R d v f1 ∧ OwnL R ds r f2
def OwnR (K : Fg) (F H : Hp) : Nat → D → V → List Addr → Prop
  | 0, d, v, fp => fp = [] ∧ Rep K F d v
  | k + 1, .lst ds, v, fp => ∃ p vs fr, v = .ref p ∧ H p = some (.lst vs) ∧ fp = p :: fr ∧ OwnL (OwnR K F H k) ds vs fr
  | k + 1, .tup ds, v, fp => ∃ p vs, v = .ref p ∧ TupAt K F p vs ∧ OwnL (OwnR K F H k) ds vs fp
  | _ + 1, .dct ks ds, v, fp => ∃ p vs, v = .ref p ∧ DctAt H p ks vs ∧ fp = [p] ∧ Reps K F ds vs
  | _ + 1, d, v, fp => fp = [] ∧ Rep K F d v

theorem OwnL.imp {R R' : D → V → List Addr → Prop} : ∀ {ds : List D} {vs : List V} {fp : List Addr}, (∀ d v f, d ∈ ds → (∀ a ∈ f, a ∈ fp) → R d v f → R' d v f) → OwnL R ds vs fp → OwnL R' ds vs fp
  | [], _, _, _, h => h
  | d :: ds, _, _, w, ⟨v, r, f1, f2, e1, e2, h, t⟩ =>
    ⟨v, r, f1, f2, e1, e2, w d v f1 (by simp) (fun a ha => by rw [e2]; simp [ha]) h, OwnL.imp (fun d v f hd hf q => w d v f (by simp [hd]) (fun a ha => by rw [e2]; simp [hf a ha]) q) t⟩
theorem OwnL.all {R : D → V → List Addr → Prop} {P : Addr → Prop} : ∀ {ds : List D} {vs : List V} {fp : List Addr}, (∀ d v f, R d v f → ∀ a ∈ f, P a) → OwnL R ds vs fp → ∀ a ∈ fp, P a
  | [], _, _, _, ⟨_, e⟩, a, ha => by subst e; simp at ha
  | d :: ds, _, _, w, ⟨v, r, f1, f2, e1, e2, h, t⟩, a, ha => by
    subst e2
    rcases List.mem_append.mp ha with z | z
    · exact w d v f1 h a z
    · exact OwnL.all w t a z
theorem OwnL.reps {K : Fg} {F : Hp} {R : D → V → List Addr → Prop} : ∀ {ds : List D} {vs : List V} {fp : List Addr}, (∀ d v f, (∀ a ∈ f, a ∈ fp) → R d v f → Rep K F d v) → OwnL R ds vs fp → Reps K F ds vs
  | [], _, _, _, h => h.1
  | d :: ds, _, _, w, ⟨v, r, f1, f2, e1, e2, h, t⟩ => ⟨v, r, e1, w d v f1 (fun a ha => by rw [e2]; simp [ha]) h, OwnL.reps (fun d v f hf q => w d v f (fun a ha => by rw [e2]; simp [hf a ha]) q) t⟩
theorem OwnL.of_reps {K : Fg} {F H : Hp} : ∀ {ds : List D} {vs : List V}, Reps K F ds vs → OwnL (OwnR K F H 0) ds vs []
  | [], _, h => ⟨h, rfl⟩
  | d :: ds, _, ⟨v, r, e, h, t⟩ => ⟨v, r, [], [], e, rfl, ⟨rfl, h⟩, OwnL.of_reps t⟩
theorem OwnL.reps0 {K : Fg} {F H : Hp} : ∀ {ds : List D} {vs : List V} {fp : List Addr}, OwnL (OwnR K F H 0) ds vs fp → fp = [] ∧ Reps K F ds vs
  | [], _, _, ⟨h, e⟩ => ⟨e, h⟩
  | d :: ds, _, _, ⟨v, r, f1, f2, e1, e2, h, t⟩ => by
    obtain ⟨z1, z2⟩ := h
    obtain ⟨z3, z4⟩ := OwnL.reps0 t
    subst z1; subst z3
    exact ⟨e2, v, r, e1, z2, z4⟩
/-- a frozen thing, and a list at the top alone that is owned -/
theorem OwnR.zero {K : Fg} {F H : Hp} {d : D} {v : V} (h : Rep K F d v) : OwnR K F H 0 d v [] := ⟨rfl, h⟩
theorem OwnR.lst1 {K : Fg} {F H : Hp} {ds : List D} {p : Addr} {vs : List V} (h : H p = some (.lst vs)) (r : Reps K F ds vs) : OwnR K F H 1 (.lst ds) (.ref p) [p] := ⟨p, vs, [], rfl, h, rfl, OwnL.of_reps r⟩
theorem OwnR.lst1_of {K : Fg} {F H : Hp} {ds : List D} {v : V} {fp : List Addr} (h : OwnR K F H 1 (.lst ds) v fp) : ∃ p vs, v = .ref p ∧ H p = some (.lst vs) ∧ fp = [p] ∧ Reps K F ds vs := by
  obtain ⟨p, vs, fr, e, h, e2, t⟩ := h
  obtain ⟨z, r⟩ := OwnL.reps0 t
  subst z
  exact ⟨p, vs, e, h, e2, r⟩

theorem OwnR.mono {K : Fg} {F F' H H' : Hp} (s : Same F F') : ∀ (k : Nat) (d : D) (v : V) (fp : List Addr), (∀ a ∈ fp, H' a = H a) → OwnR K F H k d v fp → OwnR K F' H' k d v fp := by
  intro k
  induction k with
  | zero => exact fun d v fp _ h => ⟨h.1, Rep.mono s d v h.2⟩
  | succ k ih =>
    intro d v fp w h
    cases d with
    | lst ds =>
      obtain ⟨p, vs, fr, e, h, e2, t⟩ := h
      subst e2
      exact ⟨p, vs, fr, e, by rw [w p (by simp)]; exact h, rfl, t.imp fun d v f _ hf q => ih d v f (fun a ha => w a (by simp [hf a ha])) q⟩
    | tup ds =>
      obtain ⟨p, vs, e, h, t⟩ := h
      exact ⟨p, vs, e, h.mono s, t.imp fun d v f _ hf q => ih d v f (fun a ha => w a (hf a ha)) q⟩
    | dct ks ds =>
      obtain ⟨p, vs, e, h, e2, t⟩ := h
      subst e2
      exact ⟨p, vs, e, h.mono fun o q => by rw [w p (by simp)]; exact q, rfl, Reps.mono s ds vs t⟩
    | non => exact ⟨h.1, h.2⟩
    | bl _ => exact ⟨h.1, h.2⟩
    | int _ => exact ⟨h.1, h.2⟩
    | str _ => exact ⟨h.1, h.2⟩
    | opq _ => exact ⟨h.1, h.2⟩
    | scr _ => exact ⟨h.1, Rep.mono s _ _ h.2⟩
    | pdc _ _ => exact ⟨h.1, Rep.mono s _ _ h.2⟩
    | exc _ _ _ => exact ⟨h.1, Rep.mono s _ _ h.2⟩
theorem OwnR.live {K : Fg} {F H : Hp} : ∀ (k : Nat) (d : D) (v : V) (fp : List Addr), OwnR K F H k d v fp → ∀ a ∈ fp, H a ≠ none := by
  intro k
  induction k with
  | zero => exact fun d v fp h a ha => by rw [h.1] at ha; simp at ha
  | succ k ih =>
    intro d v fp h
    cases d with
    | lst ds =>
      obtain ⟨p, vs, fr, e, h, e2, t⟩ := h
      subst e2
      intro a ha
      rcases List.mem_cons.mp ha with z | z
      · subst z; rw [h]; simp
      · exact OwnL.all (fun d v f q => ih d v f q) t a z
    | tup ds =>
      obtain ⟨p, vs, e, h, t⟩ := h
      exact OwnL.all (fun d v f q => ih d v f q) t
    | dct ks ds =>
      obtain ⟨p, vs, e, h, e2, t⟩ := h
      subst e2
      intro a ha
      have z : a = p := by simpa using ha
      subst z
      rcases h with ⟨l, h, _⟩ | ⟨l, h, _⟩ <;> (rw [h]; simp)
    | non => exact fun a ha => by rw [h.1] at ha; simp at ha
    | bl _ => exact fun a ha => by rw [h.1] at ha; simp at ha
    | int _ => exact fun a ha => by rw [h.1] at ha; simp at ha
    | str _ => exact fun a ha => by rw [h.1] at ha; simp at ha
    | opq _ => exact fun a ha => by rw [h.1] at ha; simp at ha
    | scr _ => exact fun a ha => by rw [h.1] at ha; simp at ha
    | pdc _ _ => exact fun a ha => by rw [h.1] at ha; simp at ha
    | exc _ _ _ => exact fun a ha => by rw [h.1] at ha; simp at ha
theorem OwnR.freeze {K : Fg} {F F' H : Hp} (s : Same F F') : ∀ (k : Nat) (d : D) (v : V) (fp : List Addr), (∀ a ∈ fp, F' a = H a) → OwnR K F H k d v fp → Rep K F' d v := by
  intro k
  induction k with
  | zero => exact fun d v fp _ h => Rep.mono s d v h.2
  | succ k ih =>
    intro d v fp w h
    cases d with
    | lst ds =>
      obtain ⟨p, vs, fr, e, h, e2, t⟩ := h
      subst e2
      exact ⟨p, vs, e, by rw [w p (by simp)]; exact h, t.reps fun d v f hf q => ih d v f (fun a ha => w a (by simp [hf a ha])) q⟩
    | tup ds =>
      obtain ⟨p, vs, e, h, t⟩ := h
      exact ⟨p, vs, e, h.mono s, t.reps fun d v f hf q => ih d v f (fun a ha => w a (hf a ha)) q⟩
    | dct ks ds =>
      obtain ⟨p, vs, e, h, e2, t⟩ := h
      subst e2
      exact ⟨p, vs, e, h.mono fun o q => by rw [w p (by simp)]; exact q, Reps.mono s ds vs t⟩
    | non => exact h.2
    | bl _ => exact h.2
    | int _ => exact h.2
    | str _ => exact h.2
    | opq _ => exact h.2
    | scr _ => exact Rep.mono s _ _ h.2
    | pdc _ _ => exact Rep.mono s _ _ h.2
    | exc _ _ _ => exact Rep.mono s _ _ h.2
end VL

namespace VL
open PySem PySem.Spec PyProof.Rows L2

/-- a def's run: the heap and its frozen part at the entry, the addresses of what it may change for its caller -/
structure Frm where
  H0 : Hp
  F0 : Hp
  io : List Addr
/-- a slot: nothing, a frozen thing, an owned one (k levels), the caller's own that is changed for it -/
inductive Sl where
  | no | fz (d : D) | ow (k : Nat) (d : D) | io (j : Nat) (d : D)
abbrev Ev := List Sl
def SlOk (K : Fg) (S : Frm) (F H : Hp) : Sl → Option V → List Addr → Prop
  | .no, _, fp => fp = []
  | .fz d, o, fp => fp = [] ∧ ∃ v, o = some v ∧ Rep K F d v
  | .ow k d, o, fp => (∀ a ∈ fp, S.H0 a = none) ∧ ∃ v, o = some v ∧ OwnR K F H k d v fp
  | .io j d, o, fp => ∃ a, o = some (.ref a) ∧ S.io[j]? = some a ∧ fp = [a] ∧ OwnR K F H 1 d (.ref a) [a]
structure SRf (K : Fg) (S : Frm) (F H : Hp) (σ : L2.St) (ρ : Ev) (fps : Nat → List Addr) (tmp : List (Addr × HO)) : Prop where
  sub : Same F H
  f0 : Same S.F0 F
  fnew : ∀ a, F a ≠ none → S.F0 a ≠ none ∨ S.H0 a = none
  keep : ∀ a o, S.H0 a = some o → a ∉ S.io → H a = some o
  live : ∀ a, H a = none → S.H0 a = none
  len : ρ.length = σ.length
  slot : ∀ i s, ρ[i]? = some s → SlOk K S F H s (σ[i]?).join (fps i)
  off : ∀ i, ρ[i]? = none → fps i = []
  nd : ∀ i, (fps i).Nodup
  dis : ∀ i j a, a ∈ fps i → a ∈ fps j → i = j
  free : ∀ i a, a ∈ fps i → F a = none
  ndT : (tmp.map (·.1)).Nodup
  disT : ∀ i a, a ∈ fps i → a ∉ tmp.map (·.1)
  freeT : ∀ t ∈ tmp, F t.1 = none ∧ S.H0 t.1 = none ∧ H t.1 = some t.2
def SR (K : Fg) (S : Frm) (F H : Hp) (σ : L2.St) (ρ : Ev) (tmp : List (Addr × HO)) : Prop := ∃ fps, SRf K S F H σ ρ fps tmp

section
variable {K : Fg} {S : Frm} {F F' H H' : Hp} {σ σ' : L2.St} {ρ ρ' : Ev} {fps : Nat → List Addr} {tmp tm : List (Addr × HO)} {s : Sl} {o : Option V} {fp : List Addr} {d : D} {v : V} {i j k : Nat} {p : Addr}
theorem SlOk.mono (h : SlOk K S F H s o fp) (sF : Same F F') (w : ∀ a ∈ fp, H' a = H a) : SlOk K S F' H' s o fp := by
  cases s with
  | no => exact h
  | fz d => obtain ⟨e, v, e2, r⟩ := h; exact ⟨e, v, e2, Rep.mono sF d v r⟩
  | ow k d => obtain ⟨z, v, e2, r⟩ := h; exact ⟨z, v, e2, OwnR.mono sF k d v fp w r⟩
  | io j d =>
    obtain ⟨a, e1, e2, e3, r⟩ := h
    subst e3
    exact ⟨a, e1, e2, rfl, OwnR.mono sF 1 d _ _ w r⟩
theorem SlOk.live (h : SlOk K S F H s o fp) : ∀ a ∈ fp, H a ≠ none := by
  cases s with
  | no => exact fun a ha => by rw [show fp = [] from h] at ha; simp at ha
  | fz d => exact fun a ha => by rw [h.1] at ha; simp at ha
  | ow k d => obtain ⟨z, v, e2, r⟩ := h; exact OwnR.live k d v fp r
  | io j d =>
    obtain ⟨a, e1, e2, e3, r⟩ := h
    subst e3
    exact OwnR.live 1 d _ _ r
theorem SlOk.entry (h : SlOk K S F H s o fp) : ∀ a ∈ fp, S.H0 a = none ∨ a ∈ S.io := by
  cases s with
  | no => exact fun a ha => by rw [show fp = [] from h] at ha; simp at ha
  | fz d => exact fun a ha => by rw [h.1] at ha; simp at ha
  | ow k d => exact fun a ha => .inl (h.1 a ha)
  | io j d =>
    obtain ⟨a, e1, e2, e3, r⟩ := h
    subst e3
    intro b hb
    have z : b = a := by simpa using hb
    subst z
    exact .inr (List.mem_of_getElem? e2)
theorem SRf.at (h : SRf K S F H σ ρ fps tmp) {a : Addr} (ha : a ∈ fps i) : ∃ s, ρ[i]? = some s ∧ SlOk K S F H s (σ[i]?).join (fps i) := by
  cases e : ρ[i]? with
  | none => rw [h.off i e] at ha; simp at ha
  | some s => exact ⟨s, rfl, h.slot i s e⟩
theorem SRf.alive (h : SRf K S F H σ ρ fps tmp) : ∀ i a, a ∈ fps i → H a ≠ none := fun i a ha => by
  obtain ⟨s, e, q⟩ := h.at ha
  exact q.live a ha
theorem SRf.entry (h : SRf K S F H σ ρ fps tmp) : ∀ i a, a ∈ fps i → S.H0 a = none ∨ a ∈ S.io := fun i a ha => by
  obtain ⟨s, e, q⟩ := h.at ha
  exact q.entry a ha
theorem SRf.drop (h : SRf K S F H σ ρ fps (tm ++ tmp)) : SRf K S F H σ ρ fps tmp :=
  { h with ndT := by
             have := h.ndT
             rw [List.map_append] at this
             exact (List.nodup_append.mp this).2.1
           disT := fun i a ha z => h.disT i a ha (by rw [List.map_append]; exact List.mem_append_right _ z)
           freeT := fun t z => h.freeT t (List.mem_append_right _ z) }
theorem SR.drop (h : SR K S F H σ ρ (tm ++ tmp)) : SR K S F H σ ρ tmp := let ⟨fps, h⟩ := h; ⟨fps, h.drop⟩
theorem SRf.inj (h : SRf K S F H σ ρ fps tmp) {a : Addr} (ha : a ∈ fps i) (hb : a ∈ fps j) : i = j := h.dis i j a ha hb
/-- the heap grows or is changed at chg, the frozen part grows by new things -/
theorem SRf.change (h : SRf K S F H σ ρ fps tmp) (chg : List Addr) (sF : Same F F') (sH : Same F' H') (fn : ∀ a, F' a ≠ none → F a ≠ none ∨ H a = none)
    (kp : ∀ a o, H a = some o → a ∉ chg → H' a = some o) (lv : ∀ a, H a ≠ none → H' a ≠ none) (ck : ∀ a ∈ chg, ∃ i, a ∈ fps i) (len : ρ'.length = ρ.length)
    (hs : ∀ i s, ρ'[i]? = some s → (ρ[i]? = some s ∧ ∀ a ∈ fps i, a ∉ chg) ∨ SlOk K S F' H' s (σ[i]?).join (fps i)) : SRf K S F' H' σ ρ' fps tmp where
  sub := sH
  f0 := fun a o e => sF _ _ (h.f0 a o e)
  fnew := fun a ha => by
    rcases fn a ha with z | z
    · exact h.fnew a z
    · exact .inr (h.live a z)
  keep := fun a o e ni => by
    refine kp a o (h.keep a o e ni) fun z => ?_
    obtain ⟨i, hi⟩ := ck a z
    rcases h.entry i a hi with q | q
    · rw [q] at e; cases e
    · exact ni q
  live := fun a e => by
    refine h.live a ?_
    cases q : H a with
    | none => rfl
    | some o => exact absurd e (lv a (by rw [q]; simp))
  len := len.trans h.len
  slot := fun i s e => by
    rcases hs i s e with ⟨e2, nc⟩ | q
    · refine (h.slot i s e2).mono sF fun a ha => ?_
      cases q : H a with
      | none => exact absurd q (h.alive i a ha)
      | some o => exact kp a o q (nc a ha)
    · exact q
  off := fun i e => h.off i (by
    rw [List.getElem?_eq_none_iff] at e ⊢
    omega)
  nd := h.nd
  dis := h.dis
  free := fun i a ha => by
    cases q : F' a with
    | none => rfl
    | some o =>
      rcases fn a (by rw [q]; simp) with z | z
      · exact absurd (h.free i a ha) z
      · exact absurd z (h.alive i a ha)
  ndT := h.ndT
  disT := h.disT
  freeT := fun t ht => by
    obtain ⟨f1, f2, f3⟩ := h.freeT t ht
    refine ⟨?_, f2, kp _ _ f3 fun z => ?_⟩
    · cases q : F' t.1 with
      | none => rfl
      | some o =>
        rcases fn t.1 (by rw [q]; simp) with z | z
        · exact absurd f1 z
        · rw [f3] at z; cases z
    · obtain ⟨i, hi⟩ := ck _ z
      exact h.disT i _ hi (List.mem_map_of_mem ht)
/-- what is pending is frozen -/
theorem SRf.freezeT (h : SRf K S F H σ ρ fps (tm ++ tmp)) : ∃ F', Same F F' ∧ SRf K S F' H σ ρ fps tmp ∧ ∀ a ∈ tm.map (·.1), F' a = H a := by
  have inT : ∀ a ∈ tm.map (·.1), F a = none ∧ S.H0 a = none ∧ ∃ o, H a = some o := fun a ha => by
    obtain ⟨t, ht, e⟩ := List.mem_map.mp ha
    subst e
    obtain ⟨z1, z2, z3⟩ := h.freeT t (List.mem_append_left _ ht)
    exact ⟨z1, z2, _, z3⟩
  have sF : Same F (fun a => if a ∈ tm.map (·.1) then H a else F a) := fun a o e => by
    show (if a ∈ tm.map (·.1) then H a else F a) = some o
    rw [if_neg (fun z => by rw [(inT a z).1] at e; cases e)]
    exact e
  have nd := h.ndT
  rw [List.map_append] at nd
  have nd' := List.nodup_append.mp nd
  refine ⟨fun a => if a ∈ tm.map (·.1) then H a else F a, sF, ⟨fun a o e => ?_, fun a o e => sF _ _ (h.f0 a o e), fun a ha => ?_, h.keep, h.live, h.len, fun i s e => (h.slot i s e).mono sF fun _ _ => rfl, h.off, h.nd, h.dis, fun i a ha => ?_, nd'.2.1, fun i a ha z => h.disT i a ha (by rw [List.map_append]; exact List.mem_append_right _ z), fun t z => ?_⟩, fun a ha => if_pos ha⟩
  · have e' : (if a ∈ tm.map (·.1) then H a else F a) = some o := e
    split at e'
    · exact e'
    · exact h.sub _ _ e'
  · have ha' : (if a ∈ tm.map (·.1) then H a else F a) ≠ none := ha
    by_cases z : a ∈ tm.map (·.1)
    · exact .inr (inT a z).2.1
    · rw [if_neg z] at ha'
      exact h.fnew a ha'
  · show (if a ∈ tm.map (·.1) then H a else F a) = none
    rw [if_neg (fun z => h.disT i a ha (by rw [List.map_append]; exact List.mem_append_left _ z))]
    exact h.free i a ha
  · obtain ⟨z1, z2, z3⟩ := h.freeT t (List.mem_append_right _ z)
    refine ⟨?_, z2, z3⟩
    show (if t.1 ∈ tm.map (·.1) then H t.1 else F t.1) = none
    rw [if_neg (fun w => nd'.2.2 _ w _ (List.mem_map_of_mem z) rfl)]
    exact z1
theorem SR.freezeT (h : SR K S F H σ ρ (tm ++ tmp)) : ∃ F', Same F F' ∧ SR K S F' H σ ρ tmp ∧ ∀ a ∈ tm.map (·.1), F' a = H a := by
  obtain ⟨fps, h⟩ := h
  obtain ⟨F', s, h, e⟩ := h.freezeT
  exact ⟨F', s, ⟨fps, h⟩, e⟩
/-- the things at some addresses -/
theorem objs_at {H : Hp} : ∀ (l : List Addr), (∀ a ∈ l, H a ≠ none) → ∃ t : List (Addr × HO), t.map (·.1) = l ∧ ∀ x ∈ t, H x.1 = some x.2
  | [], _ => ⟨[], rfl, fun _ z => by simp at z⟩
  | a :: l, w => by
    obtain ⟨t, e, q⟩ := objs_at l fun b hb => w b (List.mem_cons_of_mem _ hb)
    cases z : H a with
    | none => exact absurd z (w a List.mem_cons_self)
    | some o =>
      refine ⟨(a, o) :: t, by rw [List.map_cons, e], fun x hx => ?_⟩
      rcases List.mem_cons.mp hx with y | y
      · subst y; exact z
      · exact q x y
/-- an owned slot gives its thing away -/
theorem SRf.moveOut (h : SRf K S F H σ ρ fps tmp) (e : ρ[i]? = some (.ow k d)) : ∃ v tm, σ[i]? = some (some v) ∧ tm.map (·.1) = fps i ∧ OwnR K F H k d v (tm.map (·.1)) ∧ SRf K S F H σ (ρ.set i .no) (fun m => if m = i then [] else fps m) (tm ++ tmp) := by
  obtain ⟨z, v, e2, r⟩ := h.slot i _ e
  have hi : i < ρ.length := (List.getElem?_eq_some_iff.mp e).1
  have e3 : σ[i]? = some (some v) := by
    cases q : σ[i]? with
    | none => rw [q] at e2; cases e2
    | some u => rw [q] at e2; simp at e2; rw [e2]
  obtain ⟨tm, et, qt⟩ := objs_at (fps i) (h.alive i)
  refine ⟨v, tm, e3, et, by rw [et]; exact r, ⟨h.sub, h.f0, h.fnew, h.keep, h.live, by simpa using h.len, fun m s e => ?_, fun m e => ?_, fun m => ?_, fun m n a ha hb => ?_, fun m a ha => ?_, ?_, fun m a ha hb => ?_, fun t ht => ?_⟩⟩
  · by_cases q : m = i
    · subst q
      rw [List.getElem?_set_self hi] at e
      cases e
      simp [SlOk]
    · rw [List.getElem?_set_ne (Ne.symm q)] at e
      simp only [q, if_false]
      exact h.slot m s e
  · by_cases q : m = i
    · simp [q]
    · simp only [q, if_false]
      refine h.off m ?_
      rw [List.getElem?_set_ne (Ne.symm q)] at e
      exact e
  · by_cases q : m = i
    · simp [q]
    · simp only [q, if_false]; exact h.nd m
  · by_cases q : m = i
    · simp [q] at ha
    · by_cases q2 : n = i
      · simp [q2] at hb
      · simp only [q, if_false] at ha
        simp only [q2, if_false] at hb
        exact h.dis m n a ha hb
  · by_cases q : m = i
    · simp [q] at ha
    · simp only [q, if_false] at ha
      exact h.free m a ha
  · rw [List.map_append, et]
    refine List.nodup_append.mpr ⟨h.nd i, h.ndT, fun a ha b hb z => ?_⟩
    subst z
    exact h.disT i a ha hb
  · by_cases q : m = i
    · simp [q] at ha
    · simp only [q, if_false] at ha
      rw [List.map_append, et] at hb
      rcases List.mem_append.mp hb with y | y
      · exact q (h.dis m i a ha y)
      · exact h.disT m a ha y
  · rcases List.mem_append.mp ht with y | y
    · have y2 : t.1 ∈ fps i := by rw [← et]; exact List.mem_map_of_mem y
      exact ⟨h.free i _ y2, z _ y2, qt t y⟩
    · exact h.freeT t y
def noIo (ρ : Ev) (i : Nat) : Bool := match ρ[i]? with | some (.io _ _) => false | some _ => true | none => false
def mkSl : Nat → D → Sl
  | 0, d => .fz d
  | k + 1, d => .ow (k + 1) d
/-- a pending thing is stored -/
theorem SRf.store (h : SRf K S F H σ ρ fps (tm ++ tmp)) (r : OwnR K F H k d v (tm.map (·.1))) (hi : noIo ρ i = true) : SRf K S F H (σ.set i (some v)) (ρ.set i (mkSl k d)) (fun m => if m = i then tm.map (·.1) else fps m) tmp := by
  have hl : i < ρ.length := by
    unfold noIo at hi
    cases q : ρ[i]? with
    | none => rw [q] at hi; cases hi
    | some s => exact (List.getElem?_eq_some_iff.mp q).1
  have hl2 : i < σ.length := by rw [← h.len]; exact hl
  have nd := h.ndT
  rw [List.map_append] at nd
  have nd' := List.nodup_append.mp nd
  have dT : ∀ n a, a ∈ fps n → a ∉ tm.map (·.1) := fun n a ha z => h.disT n a ha (by rw [List.map_append]; exact List.mem_append_left _ z)
  have fT : ∀ a ∈ tm.map (·.1), F a = none ∧ S.H0 a = none := fun a ha => by
    obtain ⟨t, ht, e⟩ := List.mem_map.mp ha
    subst e
    obtain ⟨z1, z2, z3⟩ := h.freeT t (List.mem_append_left _ ht)
    exact ⟨z1, z2⟩
  refine ⟨h.sub, h.f0, h.fnew, h.keep, h.live, by simpa using h.len, fun m s e => ?_, fun m e => ?_, fun m => ?_, fun m n a ha hb => ?_, fun m a ha => ?_, nd'.2.1, fun m a ha hb => ?_, fun t ht => h.freeT t (List.mem_append_right _ ht)⟩
  · by_cases q : m = i
    · subst q
      rw [List.getElem?_set_self hl] at e
      cases e
      rw [List.getElem?_set_self hl2]
      simp only [if_true]
      cases k with
      | zero => exact ⟨r.1, v, rfl, r.2⟩
      | succ k => exact ⟨fun a ha => (fT a ha).2, v, rfl, r⟩
    · rw [List.getElem?_set_ne (Ne.symm q)] at e ⊢
      simp only [q, if_false]
      exact h.slot m s e
  · by_cases q : m = i
    · subst q
      rw [List.getElem?_set_self hl] at e
      cases e
    · simp only [q, if_false]
      refine h.off m ?_
      rw [List.getElem?_set_ne (Ne.symm q)] at e
      exact e
  · by_cases q : m = i
    · simp only [q, if_true]; exact nd'.1
    · simp only [q, if_false]; exact h.nd m
  · by_cases q : m = i
    · by_cases q2 : n = i
      · rw [q, q2]
      · simp only [q, if_true] at ha
        simp only [q2, if_false] at hb
        exact absurd ha (dT n a hb)
    · by_cases q2 : n = i
      · simp only [q, if_false] at ha
        simp only [q2, if_true] at hb
        exact absurd hb (dT m a ha)
      · simp only [q, if_false] at ha
        simp only [q2, if_false] at hb
        exact h.dis m n a ha hb
  · by_cases q : m = i
    · simp only [q, if_true] at ha
      exact (fT a ha).1
    · simp only [q, if_false] at ha
      exact h.free m a ha
  · by_cases q : m = i
    · simp only [q, if_true] at ha
      exact nd'.2.2 a ha a hb rfl
    · simp only [q, if_false] at ha
      exact h.disT m a ha (by rw [List.map_append]; exact List.mem_append_right _ hb)
/-- an owned slot is frozen -/
theorem SRf.freezeS (h : SRf K S F H σ ρ fps tmp) (e : ρ[i]? = some (.ow k d)) : ∃ F' fps', Same F F' ∧ SRf K S F' H σ (ρ.set i (.fz d)) fps' tmp ∧ ∃ v, σ[i]? = some (some v) ∧ Rep K F' d v := by
  obtain ⟨v, tm, e3, _, r, h1⟩ := h.moveOut e
  obtain ⟨F', s, h2, w⟩ := h1.freezeT
  have rp := OwnR.freeze s k d v _ w r
  have hl : i < ρ.length := (List.getElem?_eq_some_iff.mp e).1
  have h3 := SRf.store (tm := []) (i := i) (k := 0) (d := d) (v := v) h2 ⟨rfl, rp⟩ (by unfold noIo; rw [List.getElem?_set_self hl])
  rw [List.set_set] at h3
  have e4 : σ.set i (some v) = σ := by
    apply List.ext_getElem?
    intro m
    by_cases q : m = i
    · subst q
      rw [List.getElem?_set_self (by rw [← h.len]; exact hl), e3]
    · rw [List.getElem?_set_ne (Ne.symm q)]
  rw [e4] at h3
  exact ⟨F', _, s, h3, v, e3, rp⟩
/-- new things -/
theorem Same.upd {F : Hp} {p : Addr} {o : HO} (h : F p = none) : Same F (upd F p o) := fun b x e => by
  rw [upd_ne (ne_of_none e h)]
  exact e
theorem SRf.free_at (h : SRf K S F H σ ρ fps tmp) (e : H p = none) : F p = none := h.sub.free e
theorem SRf.allocF {o : HO} (h : SRf K S F H σ ρ fps tmp) (e : H p = none) : SRf K S (upd F p o) (upd H p o) σ ρ fps tmp := by
  have f := h.free_at e
  refine h.change [] (Same.upd f) (fun a x q => ?_) (fun a q => ?_) (fun a x q _ => Same.upd e a x q) (fun a q => ?_) (fun a ha => by simp at ha) rfl fun i s q => .inl ⟨q, fun a _ z => by simp at z⟩
  · by_cases z : a = p
    · subst z; rw [upd_same] at q ⊢; exact q
    · rw [upd_ne z] at q ⊢; exact h.sub _ _ q
  · by_cases z : a = p
    · subst z; exact .inr e
    · rw [upd_ne z] at q; exact .inl q
  · by_cases z : a = p
    · subst z; rw [upd_same]; simp
    · rw [upd_ne z]; exact q
theorem SRf.allocT {o : HO} (h : SRf K S F H σ ρ fps tmp) (e : H p = none) : SRf K S F (upd H p o) σ ρ fps ((p, o) :: tmp) := by
  have f := h.free_at e
  have h1 : SRf K S F (upd H p o) σ ρ fps tmp := by
    refine h.change [] (Same.refl F) (fun a x q => Same.upd e a x (h.sub _ _ q)) (fun a q => .inl q) (fun a x q _ => Same.upd e a x q) (fun a q => ?_) (fun a ha => by simp at ha) rfl fun i s q => .inl ⟨q, fun a _ z => by simp at z⟩
    by_cases z : a = p
    · subst z; rw [upd_same]; simp
    · rw [upd_ne z]; exact q
  refine { h1 with ndT := ?_, disT := fun i a ha z => ?_, freeT := fun t ht => ?_ }
  · refine List.nodup_cons.mpr ⟨fun z => ?_, h.ndT⟩
    obtain ⟨t, ht, e2⟩ := List.mem_map.mp z
    have q := (h.freeT t ht).2.2
    rw [show t.1 = p from e2, e] at q
    cases q
  · rcases List.mem_cons.mp z with z | z
    · subst z; exact h.alive i _ ha e
    · exact h.disT i a ha z
  · rcases List.mem_cons.mp ht with z | z
    · subst z; exact ⟨f, h.live _ e, upd_same⟩
    · exact h1.freeT t z
/-- what a slot holds -/
theorem SRf.fz (h : SRf K S F H σ ρ fps tmp) (e : ρ[i]? = some (.fz d)) : ∃ v, σ[i]? = some (some v) ∧ Rep K F d v := by
  obtain ⟨_, v, e2, r⟩ := h.slot i _ e
  refine ⟨v, ?_, r⟩
  cases q : σ[i]? with
  | none => rw [q] at e2; cases e2
  | some u => rw [q] at e2; simp at e2; rw [e2]
/-- the content of a slot that is read and left -/
def content (ρ : Ev) (i : Nat) : Option D := match ρ[i]? with
  | some (.fz d) => some d
  | some (.ow 1 d) => some d
  | some (.io _ d) => some d
  | _ => none
/-- what may be changed -/
def owned (ρ : Ev) (i : Nat) : Option D := match ρ[i]? with
  | some (.ow 1 d) => some d
  | some (.io _ d) => some d
  | _ => none
def putO (ρ : Ev) (i : Nat) (d : D) : Ev := match ρ[i]? with
  | some (.ow k _) => ρ.set i (.ow k d)
  | some (.io j _) => ρ.set i (.io j d)
  | _ => ρ
theorem SRf.own1 (h : SRf K S F H σ ρ fps tmp) (e : owned ρ i = some d) : ∃ p, σ[i]? = some (some (.ref p)) ∧ fps i = [p] ∧ OwnR K F H 1 d (.ref p) [p] ∨ fps i = [] ∧ ∃ v, σ[i]? = some (some v) ∧ Rep K F d v := by
  unfold owned at e
  have st : ∀ v, (σ[i]?).join = some v → σ[i]? = some (some v) := fun v q => by
    cases z : σ[i]? with
    | none => rw [z] at q; cases q
    | some u => rw [z] at q; simp at q; rw [q]
  split at e
  · rename_i d' q
    cases e
    obtain ⟨_, v, e2, r⟩ := h.slot i _ q
    cases d with
    | lst ds =>
      obtain ⟨p, vs, e3, h3, e4, t⟩ := r.lst1_of
      subst e3
      exact ⟨p, .inl ⟨st _ e2, e4, OwnR.lst1 h3 t⟩⟩
    | dct ks ds =>
      obtain ⟨p, vs, e3, h3, e4, t⟩ := r
      subst e3
      exact ⟨p, .inl ⟨st _ e2, e4, p, vs, rfl, h3, rfl, t⟩⟩
    | tup ds =>
      obtain ⟨p, vs, e3, h3, t⟩ := r
      obtain ⟨z, t⟩ := OwnL.reps0 t
      exact ⟨0, .inr ⟨z, v, st _ e2, p, vs, e3, h3, t⟩⟩
    | non => exact ⟨0, .inr ⟨r.1, v, st _ e2, r.2⟩⟩
    | bl _ => exact ⟨0, .inr ⟨r.1, v, st _ e2, r.2⟩⟩
    | int _ => exact ⟨0, .inr ⟨r.1, v, st _ e2, r.2⟩⟩
    | str _ => exact ⟨0, .inr ⟨r.1, v, st _ e2, r.2⟩⟩
    | opq _ => exact ⟨0, .inr ⟨r.1, v, st _ e2, r.2⟩⟩
    | scr _ => exact ⟨0, .inr ⟨r.1, v, st _ e2, r.2⟩⟩
    | pdc _ _ => exact ⟨0, .inr ⟨r.1, v, st _ e2, r.2⟩⟩
    | exc _ _ _ => exact ⟨0, .inr ⟨r.1, v, st _ e2, r.2⟩⟩
  · rename_i j d' q
    cases e
    obtain ⟨a, e2, e3, e4, r⟩ := h.slot i _ q
    exact ⟨a, .inl ⟨st _ e2, e4, r⟩⟩
  · cases e
/-- an owned list by its slot -/
theorem SRf.ownL {ds : List D} (h : SRf K S F H σ ρ fps tmp) (e : owned ρ i = some (.lst ds)) : ∃ p vs, σ[i]? = some (some (.ref p)) ∧ fps i = [p] ∧ H p = some (.lst vs) ∧ Reps K F ds vs := by
  obtain ⟨p, ⟨e1, e2, r⟩ | ⟨e1, v, e2, r⟩⟩ := h.own1 e
  · obtain ⟨q, vs, e3, h3, e4, t⟩ := r.lst1_of
    cases e3
    exact ⟨p, vs, e1, e2, h3, t⟩
  · exfalso
    obtain ⟨q, vs, e3, h3, t⟩ := r
    subst e3
    unfold owned at e
    split at e
    · rename_i d' z
      cases e
      obtain ⟨_, v, e4, r⟩ := h.slot i _ z
      obtain ⟨p', vs', e5, h5, e6, t'⟩ := r.lst1_of
      rw [e1] at e6
      cases e6
    · rename_i j d' z
      cases e
      obtain ⟨a, _, _, e6, _⟩ := h.slot i _ z
      rw [e1] at e6
      cases e6
    · cases e
/-- an owned slot is changed -/
theorem SRf.write {o : HO} {d' : D} (h : SRf K S F H σ ρ fps tmp) (e : owned ρ i = some d) (hs : σ[i]? = some (some (.ref p))) (hf : fps i = [p]) (r : OwnR K F (upd H p o) 1 d' (.ref p) [p]) : SRf K S F (upd H p o) σ (putO ρ i d') fps tmp := by
  have fp : F p = none := h.free i p (by rw [hf]; simp)
  have hl : i < ρ.length := by
    unfold owned at e
    cases q : ρ[i]? with
    | none => rw [q] at e; cases e
    | some s => exact (List.getElem?_eq_some_iff.mp q).1
  have plen : (putO ρ i d').length = ρ.length := by
    unfold putO
    split <;> simp
  refine h.change [p] (Same.refl F) (fun a x q => ?_) (fun a q => .inl q) (fun a x q nc => ?_) (fun a q => ?_) (fun a ha => ⟨i, ?_⟩) plen fun m s q => ?_
  · have z : a ≠ p := fun z => by subst z; rw [fp] at q; cases q
    rw [upd_ne z]; exact h.sub _ _ q
  · rw [upd_ne (by simpa using nc)]; exact q
  · by_cases z : a = p
    · subst z; rw [upd_same]; simp
    · rw [upd_ne z]; exact q
  · rw [hf]; exact ha
  · by_cases z : m = i
    · subst z
      refine .inr ?_
      rw [hs, hf]
      unfold owned at e
      unfold putO at q
      cases w : ρ[m]? with
      | none => rw [w] at e; cases e
      | some s0 =>
        rw [w] at e q
        have sl := h.slot m _ w
        rw [hs, hf] at sl
        cases s0 with
        | no => cases e
        | fz _ => cases e
        | ow k d0 =>
          simp only [List.getElem?_set_self hl] at q
          cases q
          have hk : k = 1 := by
            by_cases hk : k = 1
            · exact hk
            · split at e
              · rename_i heq; cases heq; exact rfl
              · rename_i heq; cases heq
              · cases e
          subst hk
          exact ⟨sl.1, _, rfl, r⟩
        | io j d0 =>
          simp only [List.getElem?_set_self hl] at q
          cases q
          obtain ⟨a, e1, e2, e3, _⟩ := sl
          cases e1
          exact ⟨p, rfl, e2, rfl, r⟩
    · refine .inl ⟨?_, fun a ha ha2 => ?_⟩
      · rw [← q]
        unfold putO
        split
        · rw [List.getElem?_set_ne (Ne.symm z)]
        · rw [List.getElem?_set_ne (Ne.symm z)]
        · rfl
      · have : a = p := by simpa using ha2
        subst this
        exact z (h.dis m i a ha (by rw [hf]; simp))
/-- content, as it is read from the heap -/
theorem SRf.read (h : SRf K S F H σ ρ fps tmp) (e : content ρ i = some d) : ∃ v G, σ[i]? = some (some v) ∧ Same F G ∧ Same G H ∧ Rep K G d v ∧ ∀ a, G a ≠ none → F a ≠ none ∨ a ∈ fps i := by
  have ow : owned ρ i = some d → ∃ v G, σ[i]? = some (some v) ∧ Same F G ∧ Same G H ∧ Rep K G d v ∧ ∀ a, G a ≠ none → F a ≠ none ∨ a ∈ fps i := fun e => by
    obtain ⟨p, ⟨e1, e2, r⟩ | ⟨_, v, e2, r⟩⟩ := h.own1 e
    · have fp : F p = none := h.free i p (by rw [e2]; simp)
      have sF : Same F (fun a => if a = p then H a else F a) := fun a o q => by
        show (if a = p then H a else F a) = some o
        rw [if_neg (fun z => by subst z; rw [fp] at q; cases q)]
        exact q
      refine ⟨_, _, e1, sF, fun a o q => ?_, OwnR.freeze sF 1 d _ _ (fun a ha => ?_) r, fun a q => ?_⟩
      · have q' : (if a = p then H a else F a) = some o := q
        split at q'
        · exact q'
        · exact h.sub _ _ q'
      · have z : a = p := by simpa using ha
        subst z
        exact if_pos rfl
      · have q' : (if a = p then H a else F a) ≠ none := q
        by_cases z : a = p
        · subst z; exact .inr (by rw [e2]; simp)
        · rw [if_neg z] at q'; exact .inl q'
    · exact ⟨v, F, e2, Same.refl F, h.sub, r, fun a q => .inl q⟩
  unfold content at e
  split at e
  · rename_i d' q
    cases e
    obtain ⟨v, e2, r⟩ := h.fz q
    exact ⟨v, F, e2, Same.refl F, h.sub, r, fun a q => .inl q⟩
  · rename_i d' q
    exact ow (by unfold owned; rw [q]; exact e)
  · rename_i j d' q
    exact ow (by unfold owned; rw [q]; exact e)
  · cases e
end
end VL

namespace VL
open PySem PySem.Spec PyProof.Rows L2

/-! ### judgements -/
abbrev QE := D → Nat → Ev → Prop
abbrev RE := Ev → QE → Prop
def VPost (K : Fg) (S : Frm) (F : Hp) (σ : L2.St) (tmp : List (Addr × HO)) (Q : QE) : VK := fun v H' => ∃ F' ρ' d k tm, Same F F' ∧ SR K S F' H' σ ρ' (tm ++ tmp) ∧ OwnR K F' H' k d v (tm.map (·.1)) ∧ Q d k ρ'
def tV (K : Fg) (r : RE) : TE := fun σ H Q' => ∃ S F ρ tmp Q, SR K S F H σ ρ tmp ∧ r ρ Q ∧ ∀ v H', VPost K S F σ tmp Q v H' → Q' v H'
def VE (X : Cx) (e : Expr) (r : RE) : Prop := PE X e (tV X.K r)

abbrev RT := Ev → (Bool → Ev → Prop) → Prop
def TPost (K : Fg) (S : Frm) (F : Hp) (σ : L2.St) (tmp : List (Addr × HO)) (Q : Bool → Ev → Prop) : Bool → Hp → Prop := fun b H' => ∃ F' ρ', Same F F' ∧ SR K S F' H' σ ρ' tmp ∧ Q b ρ'
def tVT (K : Fg) (r : RT) : TT := fun σ H Q' => ∃ S F ρ tmp Q, SR K S F H σ ρ tmp ∧ r ρ Q ∧ ∀ b H', TPost K S F σ tmp Q b H' → Q' b H'
def VT (X : Cx) (e : Expr) (r : RT) : Prop := PT X e (tVT X.K r)
def VW (X : Cx) (e : Expr) (r : RT) : Prop := PW X e (tVT X.K r)
/-- an operand: a thing at once, or a slot that is read late -/
inductive Op where
  | d (d : D) | s (i : Nat)
def opD (ρ : Ev) : Op → Option D
  | .d d => some d
  | .s i => content ρ i
def OpV (K : Fg) (F : Hp) (σ : L2.St) : Op → V → Prop
  | .d d, v => Rep K F d v
  | .s i, v => σ[i]? = some (some v)
abbrev RO := Ev → (Op → Ev → Prop) → Prop
def OPost (K : Fg) (S : Frm) (F : Hp) (σ : L2.St) (tmp : List (Addr × HO)) (Q : Op → Ev → Prop) : VK := fun v H' => ∃ F' ρ' o, Same F F' ∧ SR K S F' H' σ ρ' tmp ∧ OpV K F' σ o v ∧ Q o ρ'
def tVO (K : Fg) (r : RO) : TE := fun σ H Q' => ∃ S F ρ tmp Q, SR K S F H σ ρ tmp ∧ r ρ Q ∧ ∀ v H', OPost K S F σ tmp Q v H' → Q' v H'
def VO (X : Cx) (e : Expr) (r : RO) : Prop := PE X e (tVO X.K r)
/-- operands in a row -/
abbrev RA := Ev → (List Op → Ev → Prop) → Prop
def OpVs (K : Fg) (F : Hp) (σ : L2.St) : List Op → List V → Prop
  | [], vs => vs = []
  | o :: os, vs => ∃ v r, vs = v :: r ∧ OpV K F σ o v ∧ OpVs K F σ os r
def APost (K : Fg) (S : Frm) (F : Hp) (σ : L2.St) (tmp : List (Addr × HO)) (Q : List Op → Ev → Prop) : List V → Hp → Prop := fun vs H' => ∃ F' ρ' os, Same F F' ∧ SR K S F' H' σ ρ' tmp ∧ OpVs K F' σ os vs ∧ Q os ρ'
def tVA (K : Fg) (r : RA) : TA := fun σ H Q' => ∃ S F ρ tmp Q, SR K S F H σ ρ tmp ∧ r ρ Q ∧ ∀ vs H', APost K S F σ tmp Q vs H' → Q' vs H'
def VA (X : Cx) (es : List Expr) (r : RA) : Prop := PA X es (tVA X.K r)

section
variable {X : Cx} {e a b : Expr} {es : List Expr} {pos : Pos} {r ra rb : RE} {K : Fg} {S : Frm} {F F' F1 F2 H H' H1 : Hp} {σ : L2.St} {ρ ρ' ρ1 : Ev} {d d1 d2 : D} {v : V} {k i : Nat} {p : Addr} {o : Op} {tmp tm : List (Addr × HO)}

theorem PE.weak {t t' : TE} (h : PE X e t) (w : ∀ σ H Q, t' σ H Q → t σ H Q) : PE X e t' := ⟨fun pins s σ H Q I q => h.run pins s σ H Q I (w _ _ _ q)⟩
theorem PT.weak {t t' : TT} (h : PT X e t) (w : ∀ σ H Q, t' σ H Q → t σ H Q) : PT X e t' := ⟨fun pins s σ H Q I q => h.run pins s σ H Q I (w _ _ _ q)⟩
theorem PW.weak {t t' : TT} (h : PW X e t) (w : ∀ σ H Q, t' σ H Q → t σ H Q) : PW X e t' := ⟨fun wh pins s σ H Q I q => h.run wh pins s σ H Q I (w _ _ _ q)⟩
theorem PA.weak {t t' : TA} (h : PA X es t) (w : ∀ σ H Q, t' σ H Q → t σ H Q) : PA X es t' := ⟨fun pos pins s σ H Q I q => h.run pos pins s σ H Q I (w _ _ _ q)⟩

/-- using an expression's reading -/
theorem tV.mk {Q : QE} {Q' : VK} (h : SR K S F H σ ρ tmp) (hr : r ρ Q) (w : ∀ v H', VPost K S F σ tmp Q v H' → Q' v H') : tV K r σ H Q' := ⟨S, F, ρ, tmp, Q, h, hr, w⟩
theorem tVT.mk {r : RT} {Q : Bool → Ev → Prop} {Q' : Bool → Hp → Prop} (h : SR K S F H σ ρ tmp) (hr : r ρ Q) (w : ∀ b H', TPost K S F σ tmp Q b H' → Q' b H') : tVT K r σ H Q' := ⟨S, F, ρ, tmp, Q, h, hr, w⟩
theorem tVO.mk {r : RO} {Q : Op → Ev → Prop} {Q' : VK} (h : SR K S F H σ ρ tmp) (hr : r ρ Q) (w : ∀ v H', OPost K S F σ tmp Q v H' → Q' v H') : tVO K r σ H Q' := ⟨S, F, ρ, tmp, Q, h, hr, w⟩
theorem tVA.mk {r : RA} {Q : List Op → Ev → Prop} {Q' : List V → Hp → Prop} (h : SR K S F H σ ρ tmp) (hr : r ρ Q) (w : ∀ v H', APost K S F σ tmp Q v H' → Q' v H') : tVA K r σ H Q' := ⟨S, F, ρ, tmp, Q, h, hr, w⟩
theorem VPost.fz {Q : QE} (h : VPost K S F σ tmp Q v H') : ∃ F' ρ' d k, Same F F' ∧ SR K S F' H' σ ρ' tmp ∧ Rep K F' d v ∧ Q d k ρ' := by
  obtain ⟨F1, ρ', d, k, tm, s, h, r, q⟩ := h
  obtain ⟨F2, s2, h2, e⟩ := h.freezeT
  exact ⟨F2, ρ', d, k, s.trans s2, h2, OwnR.freeze s2 k d v _ e r, q⟩
theorem VPost.of {Q : QE} (s : Same F F') (h : SR K S F' H' σ ρ' tmp) (r : Rep K F' d v) (q : Q d 0 ρ') : VPost K S F σ tmp Q v H' := ⟨F', ρ', d, 0, [], s, h, OwnR.zero r, q⟩
theorem VPost.from {Q : QE} (s : Same F F1) (h : VPost K S F1 σ tmp Q v H') : VPost K S F σ tmp Q v H' := by
  obtain ⟨F', ρ', d, k, fp, s2, h, r, q⟩ := h
  exact ⟨F', ρ', d, k, fp, s.trans s2, h, r, q⟩
theorem TPost.from {Q : Bool → Ev → Prop} {b : Bool} (s : Same F F1) (h : TPost K S F1 σ tmp Q b H') : TPost K S F σ tmp Q b H' := by
  obtain ⟨F', ρ', s2, q⟩ := h
  exact ⟨F', ρ', s.trans s2, q⟩
theorem OPost.from {Q : Op → Ev → Prop} (s : Same F F1) (h : OPost K S F1 σ tmp Q v H') : OPost K S F σ tmp Q v H' := by
  obtain ⟨F', ρ', o, s2, q⟩ := h
  exact ⟨F', ρ', o, s.trans s2, q⟩
theorem APost.from {Q : List Op → Ev → Prop} {vs : List V} (s : Same F F1) (h : APost K S F1 σ tmp Q vs H') : APost K S F σ tmp Q vs H' := by
  obtain ⟨F', ρ', o, s2, q⟩ := h
  exact ⟨F', ρ', o, s.trans s2, q⟩

/-! ### names, constants -/
/-- a name as a value: what is owned is frozen by it -/
def rVar (i : Nat) : RE := fun ρ Q => match ρ[i]? with
  | some (.fz d) => Q d 0 ρ
  | some (.ow _ d) => Q d 0 (ρ.set i (.fz d))
  | _ => False
theorem ve_var (h : PE X e (tVar i)) : VE X e (rVar i) := by
  refine PE.weak h ?_
  rintro σ H Q' ⟨S, F, ρ, tmp, Q, ⟨fps, h⟩, hr, w⟩
  unfold rVar at hr
  split at hr
  · rename_i d q
    obtain ⟨v, e, r⟩ := h.fz q
    exact ⟨v, e, w _ _ (VPost.of (Same.refl F) ⟨fps, h⟩ r hr)⟩
  · rename_i k d q
    obtain ⟨F', fps', s, h', v, e, r⟩ := h.freezeS q
    exact ⟨v, e, w _ _ (VPost.of s ⟨fps', h'⟩ r hr)⟩
  · exact hr.elim
/-- a name's thing given away -/
def rMove (i : Nat) : RE := fun ρ Q => match ρ[i]? with
  | some (.fz d) => Q d 0 ρ
  | some (.ow k d) => Q d k (ρ.set i .no)
  | _ => False
theorem ve_move (h : PE X e (tVar i)) : VE X e (rMove i) := by
  refine PE.weak h ?_
  rintro σ H Q' ⟨S, F, ρ, tmp, Q, ⟨fps, h⟩, hr, w⟩
  unfold rMove at hr
  split at hr
  · rename_i d q
    obtain ⟨v, e, r⟩ := h.fz q
    exact ⟨v, e, w _ _ (VPost.of (Same.refl F) ⟨fps, h⟩ r hr)⟩
  · rename_i k d q
    obtain ⟨v, tm, e, _, r, h'⟩ := h.moveOut q
    exact ⟨v, e, w _ _ ⟨F, _, d, k, tm, Same.refl F, ⟨_, h'⟩, r, hr⟩⟩
  · exact hr.elim
def rC (d : D) : RE := fun ρ Q => Q d 0 ρ
theorem ve_c {v : V} {d : D} (h : PE X e (tC v)) (hd : ∀ K F, Rep K F d v) : VE X e (rC d) := by
  refine PE.weak h ?_
  rintro σ H Q' ⟨S, F, ρ, tmp, Q, h, hr, w⟩
  exact w _ _ (VPost.of (Same.refl F) h (hd _ _) hr)
theorem ve_int {i : Int} {j pos} : VE X (.Constant (.int i) j pos) (rC (.int i)) := ve_c pe_int fun _ _ => rfl
theorem ve_bl {b j pos} : VE X (.Constant (.bool b) j pos) (rC (.bl b)) := ve_c pe_bl fun _ _ => rfl
/-! ### operands -/
def roE (r : RE) : RO := fun ρ Q => r ρ fun d _ ρ' => Q (.d d) ρ'
theorem vo_e (h : VE X e r) : VO X e (roE r) := by
  refine PE.weak h ?_
  rintro σ H Q' ⟨S, F, ρ, tmp, Q, h, hr, w⟩
  refine tV.mk h hr fun v H' q => ?_
  obtain ⟨F', ρ', d, k, s, h, r, q⟩ := q.fz
  exact w _ _ ⟨F', ρ', .d d, s, h, r, q⟩
/-- a name as an operand -/
def roV (i : Nat) : RO := fun ρ Q => (content ρ i).isSome = true ∧ Q (.s i) ρ
theorem vo_v (h : PE X e (tVar i)) : VO X e (roV i) := by
  refine PE.weak h ?_
  rintro σ H Q' ⟨S, F, ρ, tmp, Q, ⟨fps, h⟩, ⟨hc, hr⟩, w⟩
  obtain ⟨d, hd⟩ := Option.isSome_iff_exists.mp hc
  obtain ⟨v, G, e, _⟩ := h.read hd
  exact ⟨v, e, w _ _ ⟨F, ρ, .s i, Same.refl F, ⟨fps, h⟩, e, hr⟩⟩
theorem OpV.mono (s : Same F F') (h : OpV K F σ o v) : OpV K F' σ o v := by
  cases o with
  | d d => exact Rep.mono s d v h
  | s i => exact h
theorem OpVs.mono {os : List Op} {vs : List V} (s : Same F F') (h : OpVs K F σ os vs) : OpVs K F' σ os vs := by
  induction os generalizing vs with
  | nil => exact h
  | cons o os ih =>
    obtain ⟨v, r, e, h, t⟩ := h
    exact ⟨v, r, e, OpV.mono s h, ih t⟩
def raNil : RA := fun ρ Q => Q [] ρ
def raCons (ro : RO) (r : RA) : RA := fun ρ Q => ro ρ fun o ρ1 => r ρ1 fun os ρ2 => Q (o :: os) ρ2
theorem va_nil : VA X [] raNil := by
  refine PA.weak pa_nil ?_
  rintro σ H Q' ⟨S, F, ρ, tmp, Q, h, hr, w⟩
  exact w _ _ ⟨F, ρ, [], Same.refl F, h, rfl, hr⟩
theorem va_cons {ro : RO} {r : RA} (ha : VO X e ro) (hr : VA X es r) (hs : starEach (e :: es) X.env = (false, eval e X.env) :: starEach es X.env := by rfl) : VA X (e :: es) (raCons ro r) := by
  refine PA.weak (pa_cons ha hr hs) ?_
  rintro σ H Q' ⟨S, F, ρ, tmp, Q, h, hr, w⟩
  refine tVO.mk h hr fun v H1 ⟨F1, ρ1, o, s1, h1, v1, q1⟩ => ?_
  refine tVA.mk h1 q1 fun vs H2 ⟨F2, ρ2, os, s2, h2, v2, q2⟩ => ?_
  exact w _ _ ⟨F2, ρ2, o :: os, s1.trans s2, h2, ⟨v, vs, rfl, v1.mono s2, v2⟩, q2⟩

/-! ### what is seen of a thing: its top as it stands, what is in it frozen -/
def Shal (K : Fg) (F H : Hp) : D → V → Prop
  | .lst ds, v => ∃ p vs, v = .ref p ∧ H p = some (.lst vs) ∧ Reps K F ds vs
  | .tup ds, v => ∃ p vs, v = .ref p ∧ TupAt K F p vs ∧ Reps K F ds vs
  | .dct ks ds, v => ∃ p vs, v = .ref p ∧ DctAt H p ks vs ∧ Reps K F ds vs
  | .scr ns, v => ∃ p, v = .ref p ∧ SqL K H p (ns.map V.int)
  | .pdc ks ds, v => ∃ p vs, v = .ref p ∧ DctZ F p ks vs ∧ Reps K F ds vs
  | .non, v => v = .non
  | .bl b, v => v = .bl b
  | .int i, v => v = .int i
  | .str x, v => v = .str x
  | .opq u, v => v = u
  | .exc c ns ds, v => ∃ p vs, v = .ref p ∧ ExcAt F p c ns vs ∧ Reps K F ds vs
theorem Rep.shal (s : Same F H) (h : Rep K F d v) : Shal K F H d v := by
  cases d with
  | lst ds => obtain ⟨p, vs, e, h, r⟩ := h; exact ⟨p, vs, e, s _ _ h, r⟩
  | tup ds => exact h
  | dct ks ds => obtain ⟨p, vs, e, h, r⟩ := h; exact ⟨p, vs, e, h.mono (s p), r⟩
  | scr ns => obtain ⟨p, e, h⟩ := h; exact ⟨p, e, SqL.mono s h⟩
  | pdc ks ds => exact h
  | _ => exact h
theorem OwnR.shal1 (s : Same F H) {fp : List Addr} (h : OwnR K F H 1 d v fp) : Shal K F H d v := by
  cases d with
  | lst ds => obtain ⟨p, vs, e, h, _, r⟩ := h.lst1_of; exact ⟨p, vs, e, h, r⟩
  | tup ds =>
    obtain ⟨p, vs, e, h, t⟩ := h
    obtain ⟨_, t⟩ := OwnL.reps0 t
    exact ⟨p, vs, e, h, t⟩
  | dct ks ds => obtain ⟨p, vs, e, h, _, r⟩ := h; exact ⟨p, vs, e, h, r⟩
  | scr ns => exact Rep.shal s h.2
  | pdc _ _ => exact Rep.shal s h.2
  | exc _ _ _ => exact Rep.shal s h.2
  | non => exact h.2
  | bl _ => exact h.2
  | int _ => exact h.2
  | str _ => exact h.2
  | opq _ => exact h.2
theorem SRf.shal {fps : Nat → List Addr} (h : SRf K S F H σ ρ fps tmp) (e : content ρ i = some d) (hv : σ[i]? = some (some v)) : Shal K F H d v := by
  have hj : (σ[i]?).join = some v := by rw [hv]; rfl
  unfold content at e
  split at e
  · rename_i d' q
    cases e
    obtain ⟨_, v', e2, r⟩ := h.slot i _ q
    rw [hj] at e2
    cases e2
    exact Rep.shal h.sub r
  · rename_i d' q
    cases e
    obtain ⟨_, v', e2, r⟩ := h.slot i _ q
    rw [hj] at e2
    cases e2
    exact OwnR.shal1 h.sub r
  · rename_i j d' q
    cases e
    obtain ⟨a, e2, _, _, r⟩ := h.slot i _ q
    rw [hj] at e2
    cases e2
    exact OwnR.shal1 h.sub r
  · cases e
theorem SR.op (h : SR K S F H σ ρ tmp) (hv : OpV K F σ o v) (e : opD ρ o = some d) : Shal K F H d v := by
  obtain ⟨fps, h⟩ := h
  cases o with
  | d d' => cases e; exact Rep.shal h.sub hv
  | s i => exact h.shal e hv

/-! ### what primitive operations give -/
/-- the same heap and a frozen thing, or a new list (owned), a new tuple -/
inductive Res (K : Fg) (F H : Hp) : D → Nat → V → Hp → Prop
  | old {d : D} {v : V} : Rep K F d v → Res K F H d 0 v H
  | lst {ds : List D} {p : Addr} {vs : List V} : H p = none → Reps K F ds vs → Res K F H (.lst ds) 1 (.ref p) (upd H p (.lst vs))
  | tup {ds : List D} {p : Addr} {vs : List V} : H p = none → Reps K F ds vs → Res K F H (.tup ds) 0 (.ref p) (upd H p (.tup vs))
  | dK {ds : List D} {p : Addr} {l : List (Key × V)} : H p = none → Reps K F ds (l.map (·.2)) → Res K F H (.dct (l.map fun x => kD x.1) ds) 1 (.ref p) (upd H p (.dK l))
theorem Res.post {Q : QE} (h : SR K S F H σ ρ tmp) (r : Res K F H d k v H') (q : Q d k ρ) : VPost K S F σ tmp Q v H' := by
  obtain ⟨fps, h⟩ := h
  cases r with
  | old r => exact VPost.of (Same.refl F) ⟨fps, h⟩ r q
  | lst hp r =>
    exact ⟨F, ρ, _, 1, [_], Same.refl F, ⟨fps, h.allocT hp⟩, OwnR.lst1 upd_same r, q⟩
  | tup hp r =>
    have f := h.free_at hp
    exact VPost.of (Same.upd f) ⟨fps, h.allocF hp⟩ (show Rep K _ (.tup _) _ from ⟨_, _, rfl, .inl upd_same, Reps.mono (Same.upd f) _ _ r⟩) q
  | dK hp r =>
    exact ⟨F, ρ, _, 1, [_], Same.refl F, ⟨fps, h.allocT hp⟩, (show OwnR K F _ 1 (.dct _ _) _ _ from ⟨_, _, rfl, .inl ⟨_, upd_same, rfl, rfl⟩, rfl, r⟩), q⟩

/-- two operands -/
abbrev G2 := D → D → (D → Nat → Prop) → Prop
def rOp2 (g : G2) (ra rb : RO) : RE := fun ρ Q => ra ρ fun o1 ρ1 => rb ρ1 fun o2 ρ2 => ∃ d1, opD ρ2 o1 = some d1 ∧ ∃ d2, opD ρ2 o2 = some d2 ∧ g d1 d2 fun d k => Q d k ρ2
def Lk2 (K : Fg) (t : R2) (g : G2) : Prop := ∀ (F H : Hp) (d1 d2 : D) (v1 v2 : V) (R : D → Nat → Prop) (Q' : VK), Same F H → Shal K F H d1 v1 → Shal K F H d2 v2 → g d1 d2 R → (∀ d k v H', Res K F H d k v H' → R d k → Q' v H') → t v1 v2 H Q'
theorem tOp.of {t : R2} {g : G2} {ra rb : RO} (lk : Lk2 K t g) (σ : L2.St) (H : Hp) (Q' : VK) (h : tV K (rOp2 g ra rb) σ H Q') : tOp t (tVO K ra) (tVO K rb) σ H Q' := by
  obtain ⟨S, F, ρ, tmp, Q, h, hr, w⟩ := h
  refine tVO.mk h hr fun v1 H1 ⟨F1, ρ1, o1, s1, h1, v1, q1⟩ => ?_
  refine tVO.mk h1 q1 fun v2 H2 ⟨F2, ρ2, o2, s2, h2, v2, d1, e1, d2, e2, q2⟩ => ?_
  refine lk F2 H2 d1 d2 _ _ _ _ ?_ (h2.op (v1.mono s2) e1) (h2.op v2 e2) q2 fun d k v H' rs q => ?_
  · obtain ⟨_, h2⟩ := h2; exact h2.sub
  · exact w _ _ ((Res.post h2 rs q).from (s1.trans s2))
theorem ve_op {op : Operator} {t : R2} {g : G2} {ra rb : RO} (ho : OpR X (binaryOp op) t) (lk : Lk2 X.K t g) (ha : VO X a ra) (hb : VO X b rb) : VE X (.BinOp a op b pos) (rOp2 g ra rb) :=
  PE.weak (pe_op ho ha hb) fun σ H Q' h => tOp.of lk σ H Q' h
theorem ve_cmp {op : CmpOp} {t : R2} {g : G2} {ra rb : RO} (ho : OpR X (compareOp op) t) (lk : Lk2 X.K t g) (ha : VO X a ra) (hb : VO X b rb) (hm : behindInMarks op b = false) : VE X (.Compare a [op] [b] pos) (rOp2 g ra rb) :=
  PE.weak (pe_cmpR ho ha hb hm) fun σ H Q' h => tOp.of lk σ H Q' h
theorem ve_ix {t : R2} {g : G2} {ra rb : RO} (hr : IxR X t) (lk : Lk2 X.K t g) (ha : VO X a ra) (hb : VO X b rb) (hs : PlainIx b) : VE X (.Subscript a b pos) (rOp2 g ra rb) :=
  PE.weak (pe_ix hr ha hb hs) fun σ H Q' h => tOp.of lk σ H Q' h
end
end VL

namespace VL
open PySem PySem.Spec PyProof.Rows L2

/-! ### data as PyData, for == -/
mutual
def D.py : D → PyData
  | .non => .none
  | .bl b => .bool b
  | .int i => .int i
  | .str x => .str x
  | .opq _ => .none
  | .scr _ => .none
  | .pdc _ _ => .none
  | .tup ds => .tuple (D.pys ds)
  | .lst ds => .list (D.pys ds)
  | .dct _ _ => .none
  | .exc _ _ _ => .none
def D.pys : List D → List PyData
  | [] => []
  | d :: ds => d.py :: D.pys ds
end
def D.ok : Nat → D → Bool
  | 0, d => match d with
    | .non => true
    | .bl _ => true
    | .int _ => true
    | .str x => PyData.strOk x
    | _ => false
  | n + 1, d => match d with
    | .non => true
    | .bl _ => true
    | .int _ => true
    | .str x => PyData.strOk x
    | .tup ds => ds.all (D.ok n)
    | .lst ds => ds.all (D.ok n)
    | _ => false
def eqb (a b : D) : Bool := PyData.eqv a.py b.py
def eqbs (a b : List D) : Bool := PyData.eqvAll (D.pys a) (D.pys b)
theorem canLay_ok : ∀ (n : Nat) (d : D), d.ok n = true → d.py.canLay0 = true ∧ d.py.depth ≤ n := by
  intro n
  induction n with
  | zero =>
    intro d h
    cases d <;> first | exact ⟨rfl, Nat.le_refl _⟩ | (exfalso; exact Bool.false_ne_true h) | exact ⟨h, Nat.le_refl _⟩
  | succ n ih =>
    have all : ∀ ds : List D, ds.all (D.ok n) = true → PyData.canLayAll0 (D.pys ds) = true ∧ PyData.depthAll (D.pys ds) ≤ n := by
      intro ds
      induction ds with
      | nil => exact fun _ => ⟨rfl, Nat.zero_le _⟩
      | cons d ds ih2 =>
        intro h
        rw [List.all_cons, Bool.and_eq_true] at h
        obtain ⟨a1, a2⟩ := ih d h.1
        obtain ⟨b1, b2⟩ := ih2 h.2
        refine ⟨?_, ?_⟩
        · show (d.py.canLay0 && PyData.canLayAll0 (D.pys ds)) = true
          rw [a1, b1]; rfl
        · show max d.py.depth (PyData.depthAll (D.pys ds)) ≤ n
          exact Nat.max_le.mpr ⟨a2, b2⟩
    intro d h
    cases d with
    | tup ds =>
      obtain ⟨a, b⟩ := all ds h
      exact ⟨a, Nat.succ_le_succ b⟩
    | lst ds =>
      obtain ⟨a, b⟩ := all ds h
      exact ⟨a, Nat.succ_le_succ b⟩
    | str x => exact ⟨h, Nat.zero_le _⟩
    | non => exact ⟨rfl, Nat.zero_le _⟩
    | bl _ => exact ⟨rfl, Nat.zero_le _⟩
    | int _ => exact ⟨rfl, Nat.zero_le _⟩
    | _ => exact absurd h Bool.false_ne_true
theorem shaped_ok {d : D} (h : d.ok 64 = true) : SeqAt.shaped d.py = true := by
  obtain ⟨a, b⟩ := canLay_ok 64 d h
  unfold SeqAt.shaped
  rw [a, decide_eq_true b]
  rfl
theorem Reps.dp_of {K : Fg} {F H : Hp} {n : Nat} (ih : ∀ (d : D) (v : V), d.ok n = true → Rep K F d v → Dp K H v d.py) : ∀ (ds : List D) (vs : List V), ds.all (D.ok n) = true → Reps K F ds vs → DpAll K H vs (D.pys ds)
  | [], _, _, h => by cases h; exact .nil
  | d :: ds, _, o, ⟨v, r, e, h, t⟩ => by
    subst e
    rw [List.all_cons, Bool.and_eq_true] at o
    exact .cons (ih d v o.1 h) (Reps.dp_of ih ds r o.2 t)
theorem Rep.dp {K : Fg} {F H : Hp} (s : Same F H) : ∀ (n : Nat) (d : D) (v : V), d.ok n = true → Rep K F d v → Dp K H v d.py := by
  intro n
  induction n with
  | zero =>
    intro d v o h
    cases d with
    | non => cases h; exact .non
    | bl _ => cases h; exact .bl _
    | int _ => cases h; exact .int _
    | str _ => cases h; exact .str _
    | _ => exact absurd o Bool.false_ne_true
  | succ n ih =>
    intro d v o h
    cases d with
    | non => cases h; exact .non
    | bl _ => cases h; exact .bl _
    | int _ => cases h; exact .int _
    | str _ => cases h; exact .str _
    | tup ds =>
      obtain ⟨p, vs, e, h, r⟩ := h
      subst e
      exact .tup (h.sq s) (Reps.dp_of ih ds vs o r)
    | lst ds =>
      obtain ⟨p, vs, e, h, r⟩ := h
      subst e
      exact .lst (.inl (.inl (s _ _ h))) (Reps.dp_of ih ds vs o r)
    | _ => exact absurd o Bool.false_ne_true
theorem Reps.dp {K : Fg} {F H : Hp} (s : Same F H) (n : Nat) (ds : List D) (vs : List V) (o : ds.all (D.ok n) = true) (h : Reps K F ds vs) : DpAll K H vs (D.pys ds) := Reps.dp_of (Rep.dp s n) ds vs o h
theorem Shal.dp {K : Fg} {F H : Hp} (s : Same F H) {n : Nat} {d : D} {v : V} (o : d.ok n = true) (h : Shal K F H d v) : Dp K H v d.py := by
  cases n with
  | zero => cases d <;> first | exact absurd o Bool.false_ne_true | exact Rep.dp s 0 _ _ o h
  | succ n =>
    cases d with
    | tup ds =>
      obtain ⟨p, vs, e, h, r⟩ := h
      subst e
      exact .tup (h.sq s) (Reps.dp s n ds vs o r)
    | lst ds =>
      obtain ⟨p, vs, e, h, r⟩ := h
      subst e
      exact .lst (.inl (.inl h)) (Reps.dp s n ds vs o r)
    | dct _ _ => exact absurd o Bool.false_ne_true
    | opq _ => exact absurd o Bool.false_ne_true
    | scr _ => exact absurd o Bool.false_ne_true
    | pdc _ _ => exact absurd o Bool.false_ne_true
    | exc _ _ _ => exact absurd o Bool.false_ne_true
    | non => exact Rep.dp s 0 .non _ rfl h
    | bl b => exact Rep.dp s 0 (.bl b) _ rfl h
    | int i => exact Rep.dp s 0 (.int i) _ rfl h
    | str x => exact Rep.dp s 0 (.str x) _ (show (D.str x).ok 0 = true from o) h

theorem Res.int {K : Fg} {F H : Hp} {i : Int} : Res K F H (.int i) 0 (.int i) H := .old (show Rep K F (.int i) (.int i) from rfl)
theorem Res.bl {K : Fg} {F H : Hp} {i : Bool} : Res K F H (.bl i) 0 (.bl i) H := .old (show Rep K F (.bl i) (.bl i) from rfl)
theorem Res.str {K : Fg} {F H : Hp} {i : Str} : Res K F H (.str i) 0 (.str i) H := .old (show Rep K F (.str i) (.str i) from rfl)
theorem Res.non {K : Fg} {F H : Hp} : Res K F H .non 0 .non H := .old (show Rep K F .non .non from rfl)
section
variable {X : Cx} {K : Fg}
def gEq : G2 := fun a b R => a.ok 64 = true ∧ b.ok 64 = true ∧ R (.bl (eqb a b)) 0
def gNe : G2 := fun a b R => a.ok 64 = true ∧ b.ok 64 = true ∧ R (.bl (!eqb a b)) 0
theorem lk_eq : Lk2 K (rEqD K) gEq := fun F H a b x y R Q' s h1 h2 ⟨o1, o2, r⟩ w => ⟨a.py, b.py, h1.dp s o1, h2.dp s o2, shaped_ok o1, shaped_ok o2, w _ _ _ _ .bl r⟩
theorem lk_ne : Lk2 K (rNeD K) gNe := fun F H a b x y R Q' s h1 h2 ⟨o1, o2, r⟩ w => ⟨a.py, b.py, h1.dp s o1, h2.dp s o2, shaped_ok o1, shaped_ok o2, w _ _ _ _ .bl r⟩

/-! ### ints -/
def gInt (C : Int → Int → Prop) (f : Int → Int → Int) : G2 := fun a b R => match a, b with
  | .int i, .int j => C i j ∧ R (.int (f i j)) 0
  | _, _ => False
def gCmp (f : Int → Int → Bool) : G2 := fun a b R => match a, b with
  | .int i, .int j => R (.bl (f i j)) 0
  | _, _ => False
theorem lk_int {C : Int → Int → Prop} {f : Int → Int → Int} : Lk2 K (rI C fun i j => .int (f i j)) (gInt C f) := fun F H a b x y R Q' s h1 h2 g w => by
  cases a <;> first | exact g.elim | skip
  cases b <;> first | exact g.elim | skip
  exact ⟨_, _, h1, h2, g.1, w _ _ _ _ .int g.2⟩
theorem lk_cmp {f : Int → Int → Bool} : Lk2 K (rI0 fun i j => .bl (f i j)) (gCmp f) := fun F H a b x y R Q' s h1 h2 g w => by
  cases a <;> first | exact g.elim | skip
  cases b <;> first | exact g.elim | skip
  exact ⟨_, _, h1, h2, w _ _ _ _ .bl g⟩
/-- + : ints, texts, lists, tuples -/
def gAdd : G2 := fun a b R => match a, b with
  | .int i, .int j => R (.int (i + j)) 0
  | .str x, .str y => x.length + y.length ≤ sizeLine ∧ R (.str (x ++ y)) 0
  | .lst xs, .lst ys => xs.length + ys.length ≤ sizeLine ∧ R (.lst (xs ++ ys)) 1
  | .tup xs, .tup ys => xs ≠ [] ∧ xs.length + ys.length ≤ sizeLine ∧ R (.tup (xs ++ ys)) 0
  | _, _ => False
def tAddAll (K : Fg) : R2 := fun x y H Q => rI0 (fun i j => .int (i + j)) x y H Q ∨ (fun x y H Q => (fun x y H Q => ∃ i j, x = .str i ∧ y = .str j ∧ i.length + j.length ≤ sizeLine ∧ Q (.str (i ++ j)) H) x y H Q ∨ (fun x y H Q => rCat x y H Q ∨ rCatT K x y H Q) x y H Q) x y H Q
theorem op_addAll : OpR X (binaryOp .Add) (tAddAll X.K) := op_add.or (op_add_str.or (op_cat.or op_catT))
theorem lk_add : Lk2 K (tAddAll K) gAdd := fun F H a b x y R Q' s h1 h2 g w => by
  cases a <;> first | exact g.elim | skip
  · cases b <;> first | exact g.elim | skip
    exact .inl ⟨_, _, h1, h2, w _ _ _ _ .int g⟩
  · cases b <;> first | exact g.elim | skip
    exact .inr (.inl ⟨_, _, h1, h2, g.1, w _ _ _ _ .str g.2⟩)
  · cases b <;> first | exact g.elim | skip
    obtain ⟨p, vs, e, hp, r⟩ := h1
    obtain ⟨q, us, e2, hq, t⟩ := h2
    obtain ⟨g1, g2, g3⟩ := g
    refine .inr (.inr (.inr ⟨p, q, vs, us, e, e2, hp.sq s, hq.sq s, fun z => ?_, by rw [r.length, t.length]; exact g2, fun z => ?_, fun z l hl => ?_⟩))
    · have := r.length
      rw [z] at this
      simp at this
      exact g1 (List.eq_nil_of_length_eq_zero this.symm)
    · subst z
      have hn := t.length
      simp at hn
      have hn := List.eq_nil_of_length_eq_zero hn.symm
      subst hn
      rw [List.append_nil] at g3
      exact w _ _ _ _ (.old (show Rep K F (.tup _) _ from ⟨p, vs, rfl, hp, r⟩)) g3
    · exact w _ _ _ _ (.tup hl (r.append t)) g3
  · cases b <;> first | exact g.elim | skip
    obtain ⟨p, vs, e, hp, r⟩ := h1
    obtain ⟨q, us, e2, hq, t⟩ := h2
    exact .inr (.inr (.inl ⟨p, q, vs, us, e, e2, hp, hq, by rw [r.length, t.length]; exact g.1, fun l hl => w _ _ _ _ (.lst hl (r.append t)) g.2⟩))
end
end VL

namespace VL
open PySem PySem.Spec PyProof.Rows L2

section
variable {X : Cx} {e a b c : Expr} {es rest : List Expr} {pos p : Pos} {K : Fg}

/-! ### ints, further -/
def FdOk (_ j : Int) : Prop := j ≠ 0
def MdOk (_ j : Int) : Prop := j ≠ 0
theorem op_modV : OpR X (binaryOp .Mod) (rI MdOk fun i j => .int (i.fmod j)) := op_modN
/-- two factors of together less than 134 million bits -/
def MulOk (i j : Int) : Prop := i.natAbs.log2 + j.natAbs.log2 < 134000000
theorem MulOk.ok {i j : Int} (h : MulOk i j) : IntMulOk i j := by
  have b : ∀ x : Int, Builtin.Int.intBits x ≤ x.natAbs.log2 + 1 := fun x => by
    unfold Builtin.Int.intBits
    split <;> omega
  have h1 := b i
  have h2 := b j
  have h3 : i.natAbs.log2 + j.natAbs.log2 < 134000000 := h
  have e : bitsLine = 134217728 := by decide
  unfold IntMulOk
  intro z
  rw [Bool.and_eq_true] at z
  have z2 := z.2
  unfold Builtin.Int.intTooBig at z2
  have z3 := of_decide_eq_true z2
  rw [e] at z3
  omega
theorem op_mulV : OpR X (binaryOp .Mult) (rI MulOk fun i j => .int (i * j)) := opI fun _ _ _ _ _ _ _ hc q => mul_int q hc.ok
theorem opBI {f : Value → Value → Sem Value} {g : Bool → Int → Int} (h : ∀ (a : Bool) (b : Int) (u : Tok) (s : Shared) (Q : Value → Shared → Prop), Q (.int (g a b) s.toks) { s with toks := s.toks + 1 } → wpAny (model X.prog X.w) X.A (f (.bool a) (.int b u)) Q X.xe s) :
    OpR X f (fun x y H Q => ∃ k i, x = .bl k ∧ y = .int i ∧ Q (.int (g k i)) H) := by
  intro pins s σ H x y v u Q I rx ry hq
  obtain ⟨k, i, rfl, rfl, q⟩ := hq
  cases rx
  obtain ⟨t, rfl⟩ := ry
  exact h _ _ _ _ _ ⟨.int _, H, I.tok _, ⟨_, rfl⟩, q⟩
theorem opIB {f : Value → Value → Sem Value} {g : Int → Bool → Int} (h : ∀ (a : Int) (b : Bool) (t : Tok) (s : Shared) (Q : Value → Shared → Prop), Q (.int (g a b) s.toks) { s with toks := s.toks + 1 } → wpAny (model X.prog X.w) X.A (f (.int a t) (.bool b)) Q X.xe s) :
    OpR X f (fun x y H Q => ∃ i k, x = .int i ∧ y = .bl k ∧ Q (.int (g i k)) H) := by
  intro pins s σ H x y v u Q I rx ry hq
  obtain ⟨i, k, rfl, rfl, q⟩ := hq
  obtain ⟨t, rfl⟩ := rx
  cases ry
  exact h _ _ _ _ _ ⟨.int _, H, I.tok _, ⟨_, rfl⟩, q⟩
def rBI (g : Bool → Int → Int) : R2 := fun x y H Q => ∃ k i, x = .bl k ∧ y = .int i ∧ Q (.int (g k i)) H
def rIB (g : Int → Bool → Int) : R2 := fun x y H Q => ∃ i k, x = .int i ∧ y = .bl k ∧ Q (.int (g i k)) H
def rOr2 (r r' : R2) : R2 := fun x y H Q => r x y H Q ∨ r' x y H Q
def bi (k : Bool) : Int := if k = true then 1 else 0
def tSubV : R2 := rOr2 (rI0 fun i j => .int (i - j)) (rOr2 (rBI fun k i => bi k - i) (rIB fun i k => i - bi k))
theorem op_subV : OpR X (binaryOp .Sub) tSubV := op_sub.or ((opBI fun a b u s Q h => PySem.IntBool.sub_bool_int h).or (opIB fun a b t s Q h => PySem.IntBool.sub_int_bool h))
def gSub : G2 := fun a b R => match a, b with
  | .int i, .int j => R (.int (i - j)) 0
  | .bl k, .int j => R (.int (bi k - j)) 0
  | .int i, .bl k => R (.int (i - bi k)) 0
  | _, _ => False
theorem lk_sub : Lk2 K tSubV gSub := fun F H a b x y R Q' s h1 h2 g w => by
  cases a with
  | int i =>
    cases b with
    | int j => exact .inl ⟨_, _, h1, h2, w _ _ _ _ .int g⟩
    | bl j => exact .inr (.inr ⟨_, _, h1, h2, w _ _ _ _ .int g⟩)
    | _ => exact g.elim
  | bl i =>
    cases b with
    | int j => exact .inr (.inl ⟨_, _, h1, h2, w _ _ _ _ .int g⟩)
    | _ => exact g.elim
  | _ => cases b <;> exact g.elim
def tMulV : R2 := rOr2 (rI MulOk fun i j => .int (i * j)) (rOr2 (rBI fun k i => bi k * i) (rIB fun i k => i * bi k))
theorem op_mulV2 : OpR X (binaryOp .Mult) tMulV := op_mulV.or ((opBI fun a b u s Q h => PySem.IntBool.mul_bool_int h).or (opIB fun a b t s Q h => PySem.IntBool.mul_int_bool h))
def gMul : G2 := fun a b R => match a, b with
  | .int i, .int j => MulOk i j ∧ R (.int (i * j)) 0
  | .bl k, .int j => R (.int (bi k * j)) 0
  | .int i, .bl k => R (.int (i * bi k)) 0
  | _, _ => False
theorem lk_mul : Lk2 K tMulV gMul := fun F H a b x y R Q' s h1 h2 g w => by
  cases a with
  | int i =>
    cases b with
    | int j => exact .inl ⟨_, _, h1, h2, g.1, w _ _ _ _ .int g.2⟩
    | bl j => exact .inr (.inr ⟨_, _, h1, h2, w _ _ _ _ .int g⟩)
    | _ => exact g.elim
  | bl i =>
    cases b with
    | int j => exact .inr (.inl ⟨_, _, h1, h2, w _ _ _ _ .int g⟩)
    | _ => exact g.elim
  | _ => cases b <;> exact g.elim
def tAddV (K : Fg) : R2 := rOr2 (tAddAll K) (rOr2 (rBI fun k i => bi k + i) (rIB fun i k => i + bi k))
theorem op_addV : OpR X (binaryOp .Add) (tAddV X.K) := op_addAll.or ((opBI fun a b u s Q h => PySem.IntBool.add_bool_int h).or (opIB fun a b t s Q h => add_int_bool h))
/-- + with bools too -/
def gAddV : G2 := fun a b R => match a, b with
  | .int i, .int j => R (.int (i + j)) 0
  | .str x, .str y => x.length + y.length ≤ sizeLine ∧ R (.str (x ++ y)) 0
  | .lst xs, .lst ys => xs.length + ys.length ≤ sizeLine ∧ R (.lst (xs ++ ys)) 1
  | .tup xs, .tup ys => xs ≠ [] ∧ xs.length + ys.length ≤ sizeLine ∧ R (.tup (xs ++ ys)) 0
  | .bl k, .int j => R (.int (bi k + j)) 0
  | .int i, .bl k => R (.int (i + bi k)) 0
  | _, _ => False
theorem lk_addV : Lk2 K (tAddV K) gAddV := fun F H a b x y R Q' s h1 h2 g w => by
  cases a with
  | int i =>
    cases b with
    | int j => exact .inl (lk_add F H (.int i) (.int j) x y R Q' s h1 h2 g w)
    | bl j => exact .inr (.inr ⟨_, _, h1, h2, w _ _ _ _ .int g⟩)
    | _ => exact g.elim
  | bl i =>
    cases b with
    | int j => exact .inr (.inl ⟨_, _, h1, h2, w _ _ _ _ .int g⟩)
    | _ => exact g.elim
  | str i =>
    cases b with
    | str j => exact .inl (lk_add F H (.str i) (.str j) x y R Q' s h1 h2 g w)
    | _ => exact g.elim
  | lst i =>
    cases b with
    | lst j => exact .inl (lk_add F H (.lst i) (.lst j) x y R Q' s h1 h2 g w)
    | _ => exact g.elim
  | tup i =>
    cases b with
    | tup j => exact .inl (lk_add F H (.tup i) (.tup j) x y R Q' s h1 h2 g w)
    | _ => exact g.elim
  | _ => cases b <;> exact g.elim
def gFd : G2 := fun a b R => match a, b with
  | .int i, .int j => FdOk i j ∧ R (.int (i.fdiv j)) 0
  | _, _ => False
def gMd : G2 := fun a b R => match a, b with
  | .int i, .int j => j ≠ 0 ∧ R (.int (i.fmod j)) 0
  | _, _ => False
def gPow : G2 := fun a b R => match a, b with
  | .int i, .int j => CPow i j ∧ R (.int (i ^ j.toNat)) 0
  | _, _ => False
theorem lk_fd : Lk2 K (rI FdOk fun i j => .int (i.fdiv j)) gFd := lk_int
theorem lk_md : Lk2 K (rI MdOk fun i j => .int (i.fmod j)) gMd := lk_int
theorem lk_pow : Lk2 K (rI CPow fun i j => .int (i ^ j.toNat)) gPow := lk_int
theorem ve_add {ra rb : RO} (ha : VO X a ra) (hb : VO X b rb) : VE X (.BinOp a .Add b pos) (rOp2 gAddV ra rb) := ve_op op_addV lk_addV ha hb
theorem ve_sub {ra rb : RO} (ha : VO X a ra) (hb : VO X b rb) : VE X (.BinOp a .Sub b pos) (rOp2 gSub ra rb) := ve_op op_subV lk_sub ha hb
theorem ve_mul {ra rb : RO} (ha : VO X a ra) (hb : VO X b rb) : VE X (.BinOp a .Mult b pos) (rOp2 gMul ra rb) := ve_op op_mulV2 lk_mul ha hb
theorem ve_md {ra rb : RO} (ha : VO X a ra) (hb : VO X b rb) : VE X (.BinOp a .Mod b pos) (rOp2 gMd ra rb) := ve_op op_modV lk_md ha hb
theorem ve_pow {ra rb : RO} (ha : VO X a ra) (hb : VO X b rb) : VE X (.BinOp a .Pow b pos) (rOp2 gPow ra rb) := ve_op op_pow lk_pow ha hb
/-- one operand by its value -/
def rNeg (r : RE) : RE := fun ρ Q => r ρ fun d _ ρ1 => match d with | .int i => Q (.int (-i)) 0 ρ1 | _ => False
theorem ve_neg {r : RE} (h : VE X a r) : VE X (.UnaryOp .USub a pos) (rNeg r) := by
  refine PE.weak (pe_un un_neg h) ?_
  rintro σ H Q' ⟨S, F, ρ, tmp, Q, h, hr, w⟩
  refine tV.mk h hr fun v H' q => ?_
  obtain ⟨F', ρ', d, k, s, h, r, q⟩ := q.fz
  cases d <;> first | exact q.elim | skip
  exact ⟨_, r, w _ _ (VPost.of (d := .int _) s h rfl q)⟩

/-! ### comparisons as values and as tests -/
def rTb (r : RE) : RT := fun ρ Q => r ρ fun d _ ρ1 => match d with | .bl c => Q c ρ1 | _ => False
theorem vt_of {r : RE} {t : TE} (h : PT X e (tB t)) (ht : ∀ σ H Q, tV X.K r σ H Q → t σ H Q) : VT X e (rTb r) := by
  refine PT.weak h ?_
  rintro σ H Q' ⟨S, F, ρ, tmp, Q, h, hr, w⟩
  refine ht _ _ _ (tV.mk h hr fun v H' q => ?_)
  obtain ⟨F', ρ', d, k, s, h, r, q⟩ := q.fz
  cases d <;> first | exact q.elim | skip
  exact ⟨_, r, w _ _ ⟨F', ρ', s, h, q⟩⟩
theorem vt_val {r : RE} (h : VE X e r) (he : ∀ whole, isTrue e X.env whole = (do let v ← whole; standAt e.pos; holding [v] (truthy v)) := by intro _; rfl) : VT X e (rTb r) := vt_of (pt_val h he) fun _ _ _ q => q
theorem vt_cmp {op : CmpOp} {t : R2} {g : G2} {ra rb : RO} (ho : OpR X (compareOp op) t) (lk : Lk2 X.K t g) (ha : VO X a ra) (hb : VO X b rb) (hm : behindInMarks op b = false) : VT X (.Compare a [op] [b] pos) (rTb (rOp2 g ra rb)) :=
  vt_of (t := tOp t (tVO X.K ra) (tVO X.K rb)) (pt_cmpR ho ha hb hm) fun σ H Q q => tOp.of lk σ H Q q
def rNot (r : RT) : RT := fun ρ Q => r ρ fun c ρ1 => Q (!c) ρ1
theorem vt_not {r : RT} (h : VT X a r) : VT X (.UnaryOp .Not a pos) (rNot r) := by
  refine PT.weak (pt_not h) ?_
  rintro σ H Q' ⟨S, F, ρ, tmp, Q, h, hr, w⟩
  exact tVT.mk h hr fun c H' ⟨F', ρ', s, h, q⟩ => w _ _ ⟨F', ρ', s, h, q⟩
/-- a test's two ways -/
def way (c : Bool) (A B : Prop) : Prop := (c = true → A) ∧ (c = false → B)
theorem way.if {c : Bool} {A B : Prop} (h : way c A B) : if c = true then A else B := by
  cases c with
  | true => exact h.1 rfl
  | false => exact h.2 rfl
def rAnd (r u : RT) : RT := fun ρ Q => r ρ fun c ρ1 => way c (u ρ1 Q) (Q false ρ1)
def rOr (r u : RT) : RT := fun ρ Q => r ρ fun c ρ1 => way c (Q true ρ1) (u ρ1 Q)
theorem vw_and1 {r : RT} (h : VT X a r) : VW X (.BoolOp .And [a] pos) r := pw_and1 h
theorem vw_or1 {r : RT} (h : VT X a r) : VW X (.BoolOp .Or [a] pos) r := pw_or1 h
theorem vw_and {r u : RT} (ha : VT X a r) (hb : VW X (.BoolOp .And (b :: rest) pos) u) : VW X (.BoolOp .And (a :: b :: rest) pos) (rAnd r u) := by
  refine PW.weak (pw_and ha hb) ?_
  rintro σ H Q' ⟨S, F, ρ, tmp, Q, h, hr, w⟩
  refine tVT.mk h hr fun c H1 ⟨F1, ρ1, s1, h1, q1⟩ => way.if ⟨fun e => ?_, fun e => ?_⟩
  · exact tVT.mk h1 (q1.1 e) fun c H2 q2 => w _ _ (q2.from s1)
  · exact w _ _ ⟨F1, ρ1, s1, h1, q1.2 e⟩
theorem vw_or {r u : RT} (ha : VT X a r) (hb : VW X (.BoolOp .Or (b :: rest) pos) u) : VW X (.BoolOp .Or (a :: b :: rest) pos) (rOr r u) := by
  refine PW.weak (pw_or ha hb) ?_
  rintro σ H Q' ⟨S, F, ρ, tmp, Q, h, hr, w⟩
  refine tVT.mk h hr fun c H1 ⟨F1, ρ1, s1, h1, q1⟩ => way.if ⟨fun e => ?_, fun e => ?_⟩
  · exact w _ _ ⟨F1, ρ1, s1, h1, q1.1 e⟩
  · exact tVT.mk h1 (q1.2 e) fun c H2 q2 => w _ _ (q2.from s1)
theorem vt_w {r : RT} (h : VW X e r) : VT X e r := PW.pt h
/-- a if t else b -/
def rIfE (t : RT) (ra rb : RE) : RE := fun ρ Q => t ρ fun c ρ1 => way c (ra ρ1 Q) (rb ρ1 Q)
theorem ve_if {t : RT} {ra rb : RE} (hc : VT X c t) (ha : VE X a ra) (hb : VE X b rb) : VE X (.IfExp c a b pos) (rIfE t ra rb) := by
  refine PE.weak (pe_ifExp hc ha hb) ?_
  rintro σ H Q' ⟨S, F, ρ, tmp, Q, h, hr, w⟩
  refine tVT.mk h hr fun d H1 ⟨F1, ρ1, s1, h1, q1⟩ => way.if ⟨fun e => ?_, fun e => ?_⟩
  · exact tV.mk h1 (q1.1 e) fun v H2 q2 => w _ _ (q2.from s1)
  · exact tV.mk h1 (q1.2 e) fun v H2 q2 => w _ _ (q2.from s1)
/-- a < b < c, over ints -/
def rChain (f f' : Int → Int → Bool) (ra rb rc : RE) : RE := fun ρ Q => ra ρ fun d1 _ ρ1 => rb ρ1 fun d2 _ ρ2 => match d1, d2 with
  | .int i, .int j => way (f i j) (rc ρ2 fun d3 _ ρ3 => match d3 with | .int k => Q (.bl (f' j k)) 0 ρ3 | _ => False) (Q (.bl false) 0 ρ2)
  | _, _ => False
theorem tChain.of {f f' : Int → Int → Bool} {ra rb rc : RE} (σ : L2.St) (H : Hp) (Q' : VK) (h : tV K (rChain f f' ra rb rc) σ H Q') :
    tChain (rI0 fun i j => .bl (f i j)) (rI0 fun i j => .bl (f' i j)) (tV K ra) (tV K rb) (tV K rc) σ H Q' := by
  obtain ⟨S, F, ρ, tmp, Q, h, hr, w⟩ := h
  refine tV.mk h hr fun v H1 q => ?_
  obtain ⟨F1, ρ1, d1, k, s1, h1, r1, q1⟩ := q.fz
  refine tV.mk h1 q1 fun v2 H2 q2 => ?_
  obtain ⟨F2, ρ2, d2, k2, s2, h2, r2, q2⟩ := q2.fz
  cases d1 <;> first | exact q2.elim | skip
  cases d2 <;> first | exact q2.elim | skip
  refine ⟨_, _, r1, r2, _, rfl, way.if ⟨fun e => ?_, fun e => ?_⟩⟩
  · refine tV.mk h2 (q2.1 e) fun v3 H3 q3 => ?_
    obtain ⟨F3, ρ3, d3, k3, s3, h3, r3, q3⟩ := q3.fz
    cases d3 <;> first | exact q3.elim | skip
    exact ⟨_, _, r2, r3, w _ _ (VPost.of (d := .bl _) ((s1.trans s2).trans s3) h3 rfl q3)⟩
  · exact w _ _ (VPost.of (d := .bl false) (s1.trans s2) h2 rfl (q2.2 e))
end
end VL

namespace VL
open PySem PySem.Spec PyProof.Rows L2

section
variable {X : Cx} {e a b c : Expr} {es rest : List Expr} {pos p : Pos} {K : Fg} {S : Frm} {F F' F1 H H' : Hp} {σ : L2.St} {ρ ρ' : Ev} {tmp : List (Addr × HO)}

/-! ### frozen values in a row; displays -/
abbrev RF := Ev → (List D → Ev → Prop) → Prop
def LPost (K : Fg) (S : Frm) (F : Hp) (σ : L2.St) (tmp : List (Addr × HO)) (Q : List D → Ev → Prop) : List V → Hp → Prop := fun vs H' => ∃ F' ρ' ds, Same F F' ∧ SR K S F' H' σ ρ' tmp ∧ Reps K F' ds vs ∧ Q ds ρ'
def tVF (K : Fg) (r : RF) : TA := fun σ H Q' => ∃ S F ρ tmp Q, SR K S F H σ ρ tmp ∧ r ρ Q ∧ ∀ vs H', LPost K S F σ tmp Q vs H' → Q' vs H'
def VF (X : Cx) (es : List Expr) (r : RF) : Prop := PA X es (tVF X.K r)
theorem tVF.mk {r : RF} {Q : List D → Ev → Prop} {Q' : List V → Hp → Prop} (h : SR K S F H σ ρ tmp) (hr : r ρ Q) (w : ∀ v H', LPost K S F σ tmp Q v H' → Q' v H') : tVF K r σ H Q' := ⟨S, F, ρ, tmp, Q, h, hr, w⟩
def rfNil : RF := fun ρ Q => Q [] ρ
def rfCons (ra : RE) (r : RF) : RF := fun ρ Q => ra ρ fun d _ ρ1 => r ρ1 fun ds ρ2 => Q (d :: ds) ρ2
theorem vf_nil : VF X [] rfNil := by
  refine PA.weak pa_nil ?_
  rintro σ H Q' ⟨S, F, ρ, tmp, Q, h, hr, w⟩
  exact w _ _ ⟨F, ρ, [], Same.refl F, h, rfl, hr⟩
theorem vf_cons {ra : RE} {r : RF} (ha : VE X e ra) (hr : VF X es r) (hs : starEach (e :: es) X.env = (false, eval e X.env) :: starEach es X.env := by rfl) : VF X (e :: es) (rfCons ra r) := by
  refine PA.weak (pa_cons ha hr hs) ?_
  rintro σ H Q' ⟨S, F, ρ, tmp, Q, h, hr, w⟩
  refine tV.mk h hr fun v H1 q => ?_
  obtain ⟨F1, ρ1, d, k, s1, h1, v1, q1⟩ := q.fz
  refine tVF.mk h1 q1 fun vs H2 ⟨F2, ρ2, ds, s2, h2, v2, q2⟩ => ?_
  exact w _ _ ⟨F2, ρ2, d :: ds, s1.trans s2, h2, ⟨v, vs, rfl, Rep.mono s2 d v v1, v2⟩, q2⟩
theorem short_line {n : Nat} (h : n ≤ 1000) : n ≤ sizeLine := Nat.le_of_lt (small1000 h)
/-- few enough (by rfl) -/
def few (ds : List D) : Bool := Nat.ble ds.length 1000
theorem few.line {ds : List D} (h : few ds = true) : ds.length ≤ sizeLine := short_line (Nat.le_of_ble_eq_true h)
def rTup1 (r : RF) : RE := fun ρ Q => r ρ fun ds ρ1 => few ds = true ∧ Q (.tup ds) 0 ρ1
def rLst1 (r : RF) : RE := fun ρ Q => r ρ fun ds ρ1 => few ds = true ∧ Q (.lst ds) 1 ρ1
theorem ve_tup {x1} {r : RF} (h : VF X es r) : VE X (.Tuple es x1 pos) (rTup1 r) := by
  refine PE.weak (pe_tup h) ?_
  rintro σ H Q' ⟨S, F, ρ, tmp, Q, h, hr, w⟩
  refine tVF.mk h hr fun vs H1 ⟨F1, ρ1, ds, s1, h1, v1, q1⟩ => ⟨by rw [v1.length]; exact few.line q1.1, fun p hp => ?_⟩
  exact w _ _ ((Res.post h1 (.tup hp v1) q1.2).from s1)
theorem ve_lst {r : RF} (h : VF X es r) : VE X (.List es pos) (rLst1 r) := by
  refine PE.weak (pe_lst h) ?_
  rintro σ H Q' ⟨S, F, ρ, tmp, Q, h, hr, w⟩
  refine tVF.mk h hr fun vs H1 ⟨F1, ρ1, ds, s1, h1, v1, q1⟩ => ⟨by rw [v1.length]; exact few.line q1.1, fun p hp => ?_⟩
  exact w _ _ ((Res.post h1 (.lst hp v1) q1.2).from s1)

/-! ### items -/
theorem atI_reps {ds : List D} {vs : List V} {i : Int} {d : D} (r : Reps K F ds vs) (h : atI ds i = some d) : ∃ v, atI vs i = some v ∧ Rep K F d v := by
  unfold atI at h ⊢
  rw [r.length]
  cases q : ixN ds.length i with
  | none => rw [q] at h; cases h
  | some j =>
    rw [q] at h
    exact r.get h
def gIx : G2 := fun a i R => match i with
  | .int i => match a with
    | .lst ds => ∃ d, atI ds i = some d ∧ R d 0
    | .tup ds => ∃ d, atI ds i = some d ∧ R d 0
    | .scr ns => ∃ n, atI ns i = some n ∧ R (.int n) 0
    | _ => False
  | _ => False
theorem atI_map {α β : Type} {f : α → β} {xs : List α} {i : Int} {x : α} (h : atI xs i = some x) : atI (xs.map f) i = some (f x) := by
  unfold atI at h ⊢
  rw [List.length_map]
  cases q : ixN xs.length i with
  | none => rw [q] at h; cases h
  | some j =>
    rw [q] at h
    have h' : xs[j]? = some x := h
    show (xs.map f)[j]? = some (f x)
    rw [List.getElem?_map, h']
    rfl
theorem lk_ix : Lk2 K (rIx K) gIx := fun F H d1 d2 x y R Q' s h1 h2 g w => by
  cases d2 <;> first | exact g.elim | skip
  cases d1 <;> first | exact g.elim | skip
  · obtain ⟨n, e, g⟩ := g
    obtain ⟨p, e1, h1⟩ := h1
    exact .inl ⟨p, _, _, _, e1, h2, h1, atI_map e, w _ _ _ _ .int g⟩
  · obtain ⟨d, e, g⟩ := g
    obtain ⟨p, vs, e1, h1, r⟩ := h1
    obtain ⟨v, e3, rv⟩ := atI_reps r e
    exact .inr (.inl ⟨p, _, _, _, e1, h2, h1.sq s, e3, w _ _ _ _ (.old rv) g⟩)
  · obtain ⟨d, e, g⟩ := g
    obtain ⟨p, vs, e1, h1, r⟩ := h1
    obtain ⟨v, e3, rv⟩ := atI_reps r e
    exact .inl ⟨p, _, _, _, e1, h2, .inl (.inl h1), e3, w _ _ _ _ (.old rv) g⟩
theorem ve_at {ra rb : RO} (ha : VO X a ra) (hb : VO X b rb) (hs : PlainIx b := by exact fun _ _ => rfl) : VE X (.Subscript a b pos) (rOp2 gIx ra rb) := ve_ix ix_seq lk_ix ha hb hs

/-! ### slices -/
def cutL (xs : List D) (lo hi : Option Int) : List D := (xs.drop (HT.sIx xs.length 0 lo)).take (HT.sIx xs.length xs.length hi - HT.sIx xs.length 0 lo)
theorem cutL_reps {ds : List D} {vs : List V} {lo hi : Option Int} (r : Reps K F ds vs) : Reps K F (cutL ds lo hi) (cutV vs lo hi) := by
  unfold cutL cutV
  rw [r.length]
  exact (r.drop _).take _
abbrev RP := Ev → (Option Int → Ev → Prop) → Prop
def PPost (K : Fg) (S : Frm) (F : Hp) (σ : L2.St) (tmp : List (Addr × HO)) (Q : Option Int → Ev → Prop) : Option Int → Hp → Prop := fun i H' => ∃ F' ρ', Same F F' ∧ SR K S F' H' σ ρ' tmp ∧ Q i ρ'
def tVP (K : Fg) (r : RP) : TO := fun σ H Q' => ∃ S F ρ tmp Q, SR K S F H σ ρ tmp ∧ r ρ Q ∧ ∀ i H', PPost K S F σ tmp Q i H' → Q' i H'
def VP (X : Cx) (e : Option Expr) (r : RP) : Prop := PO X e (tVP X.K r)
theorem PO.weak {lo : Option Expr} {t t' : TO} (h : PO X lo t) (w : ∀ σ H Q, t' σ H Q → t σ H Q) : PO X lo t' := ⟨fun pins s σ H Q I q => h.run pins s σ H Q I (w _ _ _ q)⟩
def rpNone : RP := fun ρ Q => Q none ρ
def rpSome (r : RE) : RP := fun ρ Q => r ρ fun d _ ρ1 => match d with | .int i => Q (some i) ρ1 | _ => False
theorem vp_none : VP X none rpNone := by
  refine PO.weak po_none ?_
  rintro σ H Q' ⟨S, F, ρ, tmp, Q, h, hr, w⟩
  exact w _ _ ⟨F, ρ, Same.refl F, h, hr⟩
theorem vp_some {r : RE} (h : VE X e r) : VP X (some e) (rpSome r) := by
  refine PO.weak (po_some h) ?_
  rintro σ H Q' ⟨S, F, ρ, tmp, Q, h, hr, w⟩
  refine tV.mk h hr fun v H1 q => ?_
  obtain ⟨F1, ρ1, d, k, s1, h1, v1, q1⟩ := q.fz
  cases d <;> first | exact q1.elim | skip
  exact ⟨_, v1, w _ _ ⟨F1, ρ1, s1, h1, q1⟩⟩
/-- of a list: a new one; of a tuple: where it isn't the whole -/
def gSl (d : D) (lo hi : Option Int) (R : D → Nat → Prop) : Prop := match d with
  | .lst ds => R (.lst (cutL ds lo hi)) 1
  | .tup ds => (HT.sIx ds.length 0 lo = 0 ∧ HT.sIx ds.length ds.length hi = ds.length → False) ∧ R (.tup (cutL ds lo hi)) 0
  | _ => False
def rSl (ro : RO) (rl rh : RP) : RE := fun ρ Q => ro ρ fun o ρ1 => rl ρ1 fun l ρ2 => rh ρ2 fun u ρ3 => ∃ d, opD ρ3 o = some d ∧ gSl d l u fun d k => Q d k ρ3
theorem ve_sl {lo hi : Option Expr} {p2 : Pos} {ro : RO} {rl rh : RP} (ho : VO X e ro) (hl : VP X lo rl) (hh : VP X hi rh) : VE X (.Subscript e (.Slice lo hi none p2) pos) (rSl ro rl rh) := by
  refine PE.weak (pe_slice (sl_list.or sl_tup) ho hl hh) ?_
  rintro σ H Q' ⟨S, F, ρ, tmp, Q, h, hr, w⟩
  refine tVO.mk h hr fun v H1 ⟨F1, ρ1, o, s1, h1, v1, q1⟩ => ?_
  refine ⟨S, F1, ρ1, tmp, _, h1, q1, fun l H2 ⟨F2, ρ2, s2, h2, q2⟩ => ?_⟩
  refine ⟨S, F2, ρ2, tmp, _, h2, q2, fun u H3 ⟨F3, ρ3, s3, h3, d, e3, q3⟩ => ?_⟩
  have sh := h3.op ((v1.mono s2).mono s3) e3
  have s12 := (s1.trans s2).trans s3
  cases d <;> first | exact q3.elim | skip
  · obtain ⟨p, vs, e1, h5, r⟩ := sh
    refine .inr ⟨p, vs, e1, h5.sq ?_, fun z => q3.1 ?_, fun p hp => w _ _ ((Res.post h3 (.tup hp (cutL_reps r)) q3.2).from s12)⟩
    · obtain ⟨_, h3⟩ := h3; exact h3.sub
    · rw [r.length] at z; exact z
  · obtain ⟨p, vs, e1, h5, r⟩ := sh
    exact .inl ⟨p, vs, e1, .inl (.inl h5), fun p hp => w _ _ ((Res.post h3 (.lst hp (cutL_reps r)) q3).from s12)⟩
/-! ### built-ins by their names -/
abbrev GN := List D → (D → Nat → Prop) → Prop
def opDs (ρ : Ev) : List Op → Option (List D)
  | [] => some []
  | o :: os => match opD ρ o, opDs ρ os with
    | some d, some ds => some (d :: ds)
    | _, _ => none
def Shals (K : Fg) (F H : Hp) : List D → List V → Prop
  | [], vs => vs = []
  | d :: ds, vs => ∃ v r, vs = v :: r ∧ Shal K F H d v ∧ Shals K F H ds r
theorem SR.ops (h : SR K S F H σ ρ tmp) : ∀ {os : List Op} {vs : List V} {ds : List D}, OpVs K F σ os vs → opDs ρ os = some ds → Shals K F H ds vs
  | [], vs, ds, hv, e => by cases e; exact hv
  | o :: os, vs, ds, ⟨v, r, e1, h1, t⟩, e => by
    unfold opDs at e
    split at e
    · rename_i d ds' e2 e3
      cases e
      exact ⟨v, r, e1, h.op h1 e2, h.ops t e3⟩
    · cases e
def rCB (g : GN) (ra : RA) : RE := fun ρ Q => ra ρ fun os ρ1 => ∃ ds, opDs ρ1 os = some ds ∧ g ds fun d k => Q d k ρ1
def LkN (K : Fg) (t : List V → Hp → VK → Prop) (g : GN) : Prop := ∀ (F H : Hp) (ds : List D) (vs : List V) (R : D → Nat → Prop) (Q' : VK), Same F H → Shals K F H ds vs → g ds R → (∀ d k v H', Res K F H d k v H' → R d k → Q' v H') → t vs H Q'
theorem tCB.of {t : List V → Hp → VK → Prop} {g : GN} {ra : RA} (lk : LkN K t g) (σ : L2.St) (H : Hp) (Q' : VK) (h : tV K (rCB g ra) σ H Q') : tCB t (tVA K ra) σ H Q' := by
  obtain ⟨S, F, ρ, tmp, Q, h, hr, w⟩ := h
  refine tVA.mk h hr fun vs H1 ⟨F1, ρ1, os, s1, h1, v1, ds, e1, q1⟩ => ?_
  refine lk F1 H1 ds vs _ _ ?_ (h1.ops v1 e1) q1 fun d k v H' rs q => w _ _ ((Res.post h1 rs q).from s1)
  obtain ⟨_, h1⟩ := h1; exact h1.sub
theorem ve_cb {x : Str} {id : String} {t : List V → Hp → VK → Prop} {g : GN} {ra : RA} (hc : CallR X (.builtin id) t) (lk : LkN X.K t g) (hg : Gl X x) (hm : X.mg x = none) (hv : bootBuiltins x = some (.builtin id)) (ha : VA X (e :: es) ra) (hn : x ≠ "__name__" := by decide) (hdb : (x == ("__debug__" : Str)) = false := by decide)
    (he : starEach (e :: es) X.env = (false, eval e X.env) :: starEach es X.env := by rfl) (hpl : (backTo pos (starEach es X.env)).any (·.1) = false := by rfl) : VE X (.Call (.Name x p) (e :: es) [] pos) (rCB g ra) :=
  PE.weak (pe_callB hc hg hm hv ha hn hdb he hpl) fun σ H Q q => tCB.of lk σ H Q q
theorem ve_ct {x : Str} {T : String} {t : List V → Hp → VK → Prop} {g : GN} {ra : RA} (hc : CallR X (.type T) t) (lk : LkN X.K t g) (hg : Gl X x) (hm : X.mg x = none) (hv : bootBuiltins x = some (.type T)) (ha : VA X (e :: es) ra) (hn : x ≠ "__name__" := by decide) (hdb : (x == ("__debug__" : Str)) = false := by decide)
    (he : starEach (e :: es) X.env = (false, eval e X.env) :: starEach es X.env := by rfl) (hpl : (backTo pos (starEach es X.env)).any (·.1) = false := by rfl) : VE X (.Call (.Name x p) (e :: es) [] pos) (rCB g ra) :=
  PE.weak (pe_callTy hc hg hm hv ha hn hdb he hpl) fun σ H Q q => tCB.of lk σ H Q q
theorem Shals.one {d : D} {vs : List V} (h : Shals K F H [d] vs) : ∃ v, vs = [v] ∧ Shal K F H d v := by
  obtain ⟨v, r, e, h, t⟩ := h
  cases t
  exact ⟨v, e, h⟩
theorem Shals.two {d d2 : D} {vs : List V} (h : Shals K F H [d, d2] vs) : ∃ v u, vs = [v, u] ∧ Shal K F H d v ∧ Shal K F H d2 u := by
  obtain ⟨v, r, e, h, t⟩ := h
  obtain ⟨u, e2, h2⟩ := Shals.one t
  subst e2
  exact ⟨v, u, e, h, h2⟩
/-- one operand, two -/
def g1 (f : D → (D → Nat → Prop) → Prop) : GN := fun ds R => match ds with
  | [d] => f d R
  | _ => False
def g2 (f : D → D → (D → Nat → Prop) → Prop) : GN := fun ds R => match ds with
  | [d, e] => f d e R
  | _ => False
theorem g1.of {f : D → (D → Nat → Prop) → Prop} {ds : List D} {R : D → Nat → Prop} (g : g1 f ds R) : ∃ d, ds = [d] ∧ f d R := by
  cases ds with
  | nil => exact g.elim
  | cons d r =>
    cases r with
    | nil => exact ⟨d, rfl, g⟩
    | cons _ _ => exact g.elim
theorem g2.of {f : D → D → (D → Nat → Prop) → Prop} {ds : List D} {R : D → Nat → Prop} (g : g2 f ds R) : ∃ d e, ds = [d, e] ∧ f d e R := by
  cases ds with
  | nil => exact g.elim
  | cons d r =>
    cases r with
    | nil => exact g.elim
    | cons e r =>
      cases r with
      | nil => exact ⟨d, e, rfl, g⟩
      | cons _ _ => exact g.elim
/-- len -/
def gLen : GN := g1 fun d R => match d with
  | .lst xs => R (.int xs.length) 0
  | .tup xs => R (.int xs.length) 0
  | .scr xs => R (.int xs.length) 0
  | .str x => x.length ≤ sizeLine ∧ R (.int x.length) 0
  | _ => False
theorem call_lenV : CallR X (.builtin "len") (fun xs H Q => (∃ p ys, xs = [.ref p] ∧ (SqL X.K H p ys ∨ SqT X.K H p ys) ∧ Q (.int ys.length) H) ∨ (∃ z, xs = [.str z] ∧ z.length ≤ sizeLine ∧ Q (.int z.length) H)) := call_len_seq.or call_len_str
theorem lk_len : LkN K (fun xs H Q => (∃ p ys, xs = [.ref p] ∧ (SqL K H p ys ∨ SqT K H p ys) ∧ Q (.int ys.length) H) ∨ (∃ z, xs = [.str z] ∧ z.length ≤ sizeLine ∧ Q (.int z.length) H)) gLen := fun F H ds vs R Q' s h g w => by
  obtain ⟨d, e0, g⟩ := g.of
  subst e0
  cases d with
  | str x =>
    obtain ⟨v, e, h2⟩ := h.one
    cases h2
    exact .inr ⟨_, e, g.1, w _ _ _ _ .int g.2⟩
  | scr xs =>
    obtain ⟨v, e, p, e2, h2⟩ := h.one
    subst e2
    exact .inl ⟨p, _, e, .inl h2, by rw [List.length_map]; exact w _ _ _ _ .int g⟩
  | tup xs =>
    obtain ⟨v, e, p, us, e2, h2, r⟩ := h.one
    subst e2
    exact .inl ⟨p, us, e, .inr (h2.sq s), by rw [r.length]; exact w _ _ _ _ .int g⟩
  | lst xs =>
    obtain ⟨v, e, p, us, e2, h2, r⟩ := h.one
    subst e2
    exact .inl ⟨p, us, e, .inl (.inl (.inl h2)), by rw [r.length]; exact w _ _ _ _ .int g⟩
  | _ => exact g.elim
def gInt2 (f : Int → Int → Int) : GN := g2 fun d e R => match d, e with
  | .int i, .int j => R (.int (f i j)) 0
  | _, _ => False
theorem lk_int2 {f : Int → Int → Int} : LkN K (fun xs H Q => ∃ i j, xs = [.int i, .int j] ∧ Q (.int (f i j)) H) (gInt2 f) := fun F H ds vs R Q' s h g w => by
  obtain ⟨d, e, e0, g⟩ := g.of
  subst e0
  cases d with
  | int i =>
    cases e with
    | int j =>
      obtain ⟨v, u, e, h2, h3⟩ := h.two
      cases h2
      cases h3
      exact ⟨i, j, e, w _ _ _ _ .int g⟩
    | _ => exact g.elim
  | _ => exact g.elim
theorem abs_ite (t : Int) : (if t < 0 then -t else t) = (t.natAbs : Int) := by split <;> omega
def gAbs : GN := g1 fun d R => match d with
  | .int i => R (.int (i.natAbs : Nat)) 0
  | _ => False
theorem lk_abs : LkN K (fun xs H Q => ∃ i, xs = [.int i] ∧ Q (.int (if i < 0 then -i else i)) H) gAbs := fun F H ds vs R Q' s h g w => by
  obtain ⟨d, e0, g⟩ := g.of
  subst e0
  cases d with
  | int i =>
    obtain ⟨v, e, h2⟩ := h.one
    cases h2
    exact ⟨i, e, by rw [abs_ite]; exact w _ _ _ _ .int g⟩
  | _ => exact g.elim
def gMin : GN := g2 fun d e R => match d, e with
  | .int i, .int j => R (.int (min i j)) 0
  | _, _ => False
def gMax : GN := g2 fun d e R => match d, e with
  | .int i, .int j => R (.int (max i j)) 0
  | _, _ => False
theorem lk_min : LkN K (fun xs H Q => ∃ i j, xs = [.int i, .int j] ∧ Q (.int (if j < i then j else i)) H) gMin := fun F H ds vs R Q' s h g w => by
  refine lk_int2 (f := fun i j => if j < i then j else i) F H ds vs R Q' s h ?_ w
  obtain ⟨d, e, e0, g⟩ := g.of
  subst e0
  cases d with
  | int i =>
    cases e with
    | int j =>
      show R (.int (if j < i then j else i)) 0
      rw [show (if j < i then j else i) = min i j by split <;> omega]
      exact g
    | _ => exact g.elim
  | _ => exact g.elim
theorem lk_max : LkN K (fun xs H Q => ∃ i j, xs = [.int i, .int j] ∧ Q (.int (if j > i then j else i)) H) gMax := fun F H ds vs R Q' s h g w => by
  refine lk_int2 (f := fun i j => if j > i then j else i) F H ds vs R Q' s h ?_ w
  obtain ⟨d, e, e0, g⟩ := g.of
  subst e0
  cases d with
  | int i =>
    cases e with
    | int j =>
      show R (.int (if j > i then j else i)) 0
      rw [show (if j > i then j else i) = max i j by split <;> omega]
      exact g
    | _ => exact g.elim
  | _ => exact g.elim
/-- int of an int, of a bool -/
def gIntOf : GN := g1 fun d R => match d with
  | .int i => R (.int i) 0
  | .bl k => R (.int (bi k)) 0
  | _ => False
theorem lk_intOf : LkN K (fun xs H Q => (∃ i, xs = [.int i] ∧ Q (.int i) H) ∨ ∃ k, xs = [.bl k] ∧ Q (.int (if k then 1 else 0)) H) gIntOf := fun F H ds vs R Q' s h g w => by
  obtain ⟨d, e0, g⟩ := g.of
  subst e0
  cases d with
  | bl i =>
    obtain ⟨v, e, h2⟩ := h.one
    cases h2
    exact .inr ⟨i, e, w _ _ _ _ .int g⟩
  | int i =>
    obtain ⟨v, e, h2⟩ := h.one
    cases h2
    exact .inl ⟨i, e, w _ _ _ _ .int g⟩
  | _ => exact g.elim
/-- list(xs), tuple(xs) -/
def gListOf : GN := g1 fun d R => match d with
  | .lst xs => R (.lst xs) 1
  | .tup xs => R (.lst xs) 1
  | _ => False
theorem lk_listOf : LkN K (fun xs H Q => ∃ p ys, xs = [.ref p] ∧ (SqL K H p ys ∨ SqT K H p ys) ∧ ∀ l, H l = none → Q (.ref l) (upd H l (.lst ys))) gListOf := fun F H ds vs R Q' s h g w => by
  obtain ⟨d, e0, g⟩ := g.of
  subst e0
  cases d with
  | tup xs =>
    obtain ⟨v, e, p, us, e2, h2, r⟩ := h.one
    subst e2
    exact ⟨p, us, e, .inr (h2.sq s), fun l hl => w _ _ _ _ (.lst hl r) g⟩
  | lst xs =>
    obtain ⟨v, e, p, us, e2, h2, r⟩ := h.one
    subst e2
    exact ⟨p, us, e, .inl (.inl (.inl h2)), fun l hl => w _ _ _ _ (.lst hl r) g⟩
  | _ => exact g.elim
def gTupOf : GN := g1 fun d R => match d with
  | .lst xs => R (.tup xs) 0
  | .tup xs => R (.tup xs) 0
  | _ => False
theorem lk_tupOf : LkN K (fun xs H Q => ∃ p ys, xs = [.ref p] ∧ ((SqL K H p ys ∧ ∀ l, H l = none → Q (.ref l) (upd H l (.tup ys))) ∨ (SqT K H p ys ∧ Q (.ref p) H))) gTupOf := fun F H ds vs R Q' s h g w => by
  obtain ⟨d, e0, g⟩ := g.of
  subst e0
  cases d with
  | tup xs =>
    obtain ⟨v, e, p, us, e2, h2, r⟩ := h.one
    subst e2
    exact ⟨p, us, e, .inr ⟨h2.sq s, w _ _ _ _ (.old (show Rep K F (.tup xs) _ from ⟨p, us, rfl, h2, r⟩)) g⟩⟩
  | lst xs =>
    obtain ⟨v, e, p, us, e2, h2, r⟩ := h.one
    subst e2
    exact ⟨p, us, e, .inl ⟨.inl (.inl h2), fun l hl => w _ _ _ _ (.tup hl r) g⟩⟩
  | _ => exact g.elim
/-- all, any of a list of bools; sum of a list of ints -/
def blOf : D → Option Bool
  | .bl b => some b
  | _ => none
def inOf : D → Option Int
  | .int b => some b
  | _ => none
def blsOf : List D → Option (List Bool)
  | [] => some []
  | d :: r => match blOf d, blsOf r with
    | some b, some l => some (b :: l)
    | _, _ => none
def intsOf : List D → Option (List Int)
  | [] => some []
  | d :: r => match inOf d, intsOf r with
    | some b, some l => some (b :: l)
    | _, _ => none
theorem blOf_rep {d : D} {v : V} {b : Bool} (h : Rep K F d v) (e : blOf d = some b) : v = .bl b := by
  cases d with
  | bl c => cases e; exact h
  | _ => cases e
theorem inOf_rep {d : D} {v : V} {b : Int} (h : Rep K F d v) (e : inOf d = some b) : v = .int b := by
  cases d with
  | int c => cases e; exact h
  | _ => cases e
theorem blsOf_reps : ∀ {ds : List D} {vs : List V} {bs : List Bool}, Reps K F ds vs → blsOf ds = some bs → vs = bs.map V.bl
  | [], _, _, h, e => by cases e; exact h
  | d :: r, _, _, ⟨v, u, e1, h, t⟩, e => by
    unfold blsOf at e
    split at e
    · rename_i b l q1 q2
      cases e
      rw [e1, blOf_rep h q1, blsOf_reps t q2]; rfl
    · cases e
theorem intsOf_reps : ∀ {ds : List D} {vs : List V} {bs : List Int}, Reps K F ds vs → intsOf ds = some bs → vs = bs.map V.int
  | [], _, _, h, e => by cases e; exact h
  | d :: r, _, _, ⟨v, u, e1, h, t⟩, e => by
    unfold intsOf at e
    split at e
    · rename_i b l q1 q2
      cases e
      rw [e1, inOf_rep h q1, intsOf_reps t q2]; rfl
    · cases e
theorem blsOf_map {α : Type} (f : α → Bool) (l : List α) : blsOf (l.map fun x => .bl (f x)) = some (l.map f) := by
  induction l with
  | nil => rfl
  | cons x l ih => rw [List.map_cons, List.map_cons]; unfold blsOf; rw [ih]; rfl
theorem intsOf_map {α : Type} (f : α → Int) (l : List α) : intsOf (l.map fun x => .int (f x)) = some (l.map f) := by
  induction l with
  | nil => rfl
  | cons x l ih => rw [List.map_cons, List.map_cons]; unfold intsOf; rw [ih]; rfl
def gBls (f : List Bool → Bool) : GN := g1 fun d R => match d with
  | .lst xs => ∃ bs, blsOf xs = some bs ∧ R (.bl (f bs)) 0
  | _ => False
theorem lk_bls {f : List Bool → Bool} : LkN K (fun vs H Q => ∃ (a : Addr) (bs : List Bool), vs = [V.ref a] ∧ SqL K H a (bs.map V.bl) ∧ Q (.bl (f bs)) H) (gBls f) := fun F H ds vs R Q' s h g w => by
  obtain ⟨d, e0, g⟩ := g.of
  subst e0
  cases d with
  | lst xs =>
    obtain ⟨bs, e0, g⟩ := g
    obtain ⟨v, e, p, us, e2, h2, r⟩ := h.one
    subst e2
    have e3 := blsOf_reps r e0
    subst e3
    exact ⟨p, bs, e, .inl (.inl h2), w _ _ _ _ .bl g⟩
  | _ => exact g.elim
def gSum : GN := g1 fun d R => match d with
  | .lst xs => ∃ ns, intsOf xs = some ns ∧ R (.int ns.sum) 0
  | _ => False
theorem lk_sum : LkN K (rSum K) gSum := fun F H ds vs R Q' s h g w => by
  obtain ⟨d, e0, g⟩ := g.of
  subst e0
  cases d with
  | lst xs =>
    obtain ⟨ns, e0, g⟩ := g
    obtain ⟨v, e, p, us, e2, h2, r⟩ := h.one
    subst e2
    have e3 := intsOf_reps r e0
    subst e3
    exact ⟨p, ns, e, .inl (.inl h2), w _ _ _ _ .int g⟩
  | _ => exact g.elim
/-- types as values; isinstance -/
theorem ve_ty {x : Str} {T : String} (hg : Gl X x) (hm : X.mg x = none) (hv : bootBuiltins x = some (.type T)) (hn : x ≠ "__name__" := by decide) (hd : (x == ("__debug__" : Str)) = false := by decide) : VE X (.Name x p) (rC (.opq (.ty T))) :=
  ve_c (pe_bltn (v := .ty T) hg hm hv rfl hn hd) fun _ _ => rfl
def tyD : D → Option String
  | .non => some "NoneType"
  | .bl _ => some "bool"
  | .int _ => some "int"
  | .str _ => some "str"
  | .tup _ => some "tuple"
  | .lst _ => some "list"
  | .dct _ _ => some "dict"
  | _ => none
def isTy (t T : String) : Bool := t == T || (t == "bool" && T == "int")
theorem kit_isTy : ∀ t ∈ ["NoneType", "bool", "int", "str", "tuple", "list", "dict"], ∀ T ∈ ["bool", "int", "str", "tuple", "list", "dict"], kitB t T = some (isTy t T) := by decide +kernel
theorem tyD_mem {d : D} {t : String} (h : tyD d = some t) : t ∈ ["NoneType", "bool", "int", "str", "tuple", "list", "dict"] := by
  cases d <;> first | (cases h; decide) | cases h
theorem tyD_of {d : D} {v : V} {t : String} (s : Same F H) (h : Shal K F H d v) (e : tyD d = some t) : TyX K H v (.type t) := by
  cases d with
  | non => cases h; cases e; exact .base .non
  | bl b => cases h; cases e; exact .base (.bl b)
  | int b => cases h; cases e; exact .base (.int b)
  | str b => cases h; cases e; exact .base (.str b)
  | tup ds => obtain ⟨p, vs, e2, h2, _⟩ := h; subst e2; cases e; exact (match h2 with
      | .inl h2 => .base (.tup (s _ _ h2))
      | .inr ⟨o, its, n, k1, k2, _⟩ => .kTuple k1 k2)
  | lst ds => obtain ⟨p, vs, e2, h2, _⟩ := h; subst e2; cases e; exact .base (.lst h2)
  | dct ks ds =>
    obtain ⟨p, vs, e2, h2, _⟩ := h
    subst e2
    cases e
    rcases h2 with ⟨l, h2, _⟩ | ⟨l, h2, _⟩
    · exact .base (.dK h2)
    · exact .base (.dT h2)
  | _ => cases e
def tyOf : D → Option String
  | .opq (.ty T) => some T
  | _ => none
def tysOf : List D → Option (List String)
  | [] => some []
  | d :: r => match tyOf d, tysOf r with
    | some b, some l => some (b :: l)
    | _, _ => none
def tyList : List String := ["bool", "int", "str", "tuple", "list", "dict"]
def gIsi : GN := g2 fun d e R => match e with
  | .opq (.ty T) => ∃ t, tyD d = some t ∧ T ∈ tyList ∧ R (.bl (isTy t T)) 0
  | .tup ts => ∃ t, tyD d = some t ∧ ∃ Ts, tysOf ts = some Ts ∧ (∀ T ∈ Ts, T ∈ tyList) ∧ R (.bl (Ts.any (isTy t))) 0
  | _ => False
theorem kitAny_of {t : String} (ht : t ∈ ["NoneType", "bool", "int", "str", "tuple", "list", "dict"]) : ∀ Ts : List String, (∀ T ∈ Ts, T ∈ tyList) → PySem.W.kitAny K (.type t) (Ts.map Value.type) = some (Ts.any (isTy t))
  | [], _ => kitAny_nil
  | T :: Ts, h => by
    have h1 := kit_ty (K := K) (kit_isTy t ht T (h T (by simp)))
    have h2 := kitAny_of ht Ts fun T' q => h T' (by simp [q])
    rw [List.map_cons]
    refine kitAny_cons (b := isTy t T) h1 (fun e => ?_) (fun e => ?_)
    · rw [h2, List.any_cons, e]; rfl
    · rw [List.any_cons, e]; rfl
theorem tyOf_rep {d : D} {v : V} {T : String} (h : Rep K F d v) (e : tyOf d = some T) : v = .ty T := by
  cases d with
  | opq c =>
    cases c with
    | ty T' => cases e; exact h
    | _ => cases e
  | _ => cases e
theorem tysOf_reps : ∀ {ds : List D} {vs : List V} {Ts : List String}, Reps K F ds vs → tysOf ds = some Ts → Paired ClsV vs (Ts.map Value.type)
  | [], _, _, h, e => by cases e; cases h; exact .nil
  | d :: r, _, _, ⟨v, u, e1, h, t⟩, e => by
    unfold tysOf at e
    split at e
    · rename_i b l q1 q2
      cases e
      rw [e1, tyOf_rep h q1]
      exact .cons (.ty b) (tysOf_reps t q2)
    · cases e
theorem call_isiV : CallR X (.builtin "isinstance") (fun xs H Q => rIsi X.K xs H Q ∨ (fun xs H Q => rIsiT X.K xs H Q ∨ rIsiK X.K xs H Q) xs H Q) := call_isi.or (call_isiT.or call_isiK)
theorem lk_isi : LkN K (fun xs H Q => rIsi K xs H Q ∨ (fun xs H Q => rIsiT K xs H Q ∨ rIsiK K xs H Q) xs H Q) gIsi := fun F H ds vs R Q' s h g w => by
  obtain ⟨d, c, e0, g⟩ := g.of
  subst e0
  cases c with
  | opq cv =>
    cases cv with
    | ty T =>
      obtain ⟨t, e0, hT, g⟩ := g
      obtain ⟨v, u, e, h2, h3⟩ := h.two
      cases h3
      exact .inl ⟨v, _, .type t, .type T, isTy t T, e, .ty T, tyD_of s h2 e0, kit_ty (kit_isTy t (tyD_mem e0) T hT), w _ _ _ _ .bl g⟩
    | _ => exact g.elim
  | tup ts =>
    obtain ⟨t, e0, Ts, e1, hT, g⟩ := g
    obtain ⟨v, u, e, h2, p, us, e3, h3, r⟩ := h.two
    subst e3
    rcases h3 with h3 | ⟨o, its, n, k1, k2, k3, k4, k5⟩
    · exact .inr (.inl ⟨v, p, us, .type t, Ts.map Value.type, Ts.any (isTy t), e, s _ _ h3, tysOf_reps r e1, tyD_of s h2 e0, kitAny_of (tyD_mem e0) Ts hT, w _ _ _ _ .bl g⟩)
    · have e6 := ClsV.all (tysOf_reps r e1) k5
      obtain ⟨oc, od, dt, sl⟩ := o
      simp only at k2 k3
      subst k2 k3
      refine .inr (.inr ⟨v, p, od, Ts.map Value.type, n, sl, .type t, Ts.any (isTy t), e, ?_, tyD_of s h2 e0, kitAny_of (tyD_mem e0) Ts hT, w _ _ _ _ .bl g⟩)
      rw [k1, ← e6]
  | _ => exact g.elim
end
end VL

namespace VL
open PySem PySem.Spec PyProof.Rows L2

/-! ### statements -/
structure EN where
  nx : Ev → Prop
  rt : QE
  bk : Ev → Prop := fun _ => False
  ct : Ev → Prop := fun _ => False
abbrev RS := Ev → EN → Prop
def NPost (K : Fg) (S : Frm) (F : Hp) (P : Ev → Prop) : L2.St → Hp → Prop := fun σ' H' => ∃ F' ρ', Same F F' ∧ SR K S F' H' σ' ρ' [] ∧ P ρ'
def RPost (K : Fg) (S : Frm) (F : Hp) (P : QE) : VK := fun v H' => ∃ σ', VPost K S F σ' [] P v H'
structure EOk (K : Fg) (S : Frm) (F : Hp) (E : EN) (D : Ends) : Prop where
  nx : ∀ σ' H', NPost K S F E.nx σ' H' → D.nx σ' H'
  rt : ∀ v H', RPost K S F E.rt v H' → D.rt v H'
  bk : ∀ σ' H', NPost K S F E.bk σ' H' → D.bk σ' H'
  ct : ∀ σ' H', NPost K S F E.ct σ' H' → D.ct σ' H'
def sV (K : Fg) (r : RS) : TS := fun D σ H => ∃ S F ρ E, SR K S F H σ ρ [] ∧ r ρ E ∧ EOk K S F E D
def VS (X : Cx) (st : Stmt) (r : RS) : Prop := PS X st (sV X.K r)
def VSs (X : Cx) (st : List Stmt) (r : RS) : Prop := PSs X st (sV X.K r)

section
variable {X : Cx} {st : Stmt} {sts rest : List Stmt} {e a b c : Expr} {es : List Expr} {pos p : Pos} {K : Fg} {S : Frm} {F F' F1 H H' : Hp} {σ : L2.St} {ρ ρ' : Ev} {tmp : List (Addr × HO)} {r u : RS}
theorem PS.weak {t t' : TS} (h : PS X st t) (w : ∀ D σ H, t' D σ H → t D σ H) : PS X st t' := ⟨fun pins s σ H D I q => h.run pins s σ H D I (w _ _ _ q)⟩
theorem PSs.weak {t t' : TS} (h : PSs X sts t) (w : ∀ D σ H, t' D σ H → t D σ H) : PSs X sts t' := ⟨fun pins s σ H D I q => h.run pins s σ H D I (w _ _ _ q)⟩
theorem NPost.from {P : Ev → Prop} {σ' : L2.St} (s : Same F F1) (h : NPost K S F1 P σ' H') : NPost K S F P σ' H' := by
  obtain ⟨F', ρ', s2, q⟩ := h
  exact ⟨F', ρ', s.trans s2, q⟩
theorem RPost.from {P : QE} {v : V} (s : Same F F1) (h : RPost K S F1 P v H') : RPost K S F P v H' := by
  obtain ⟨σ', q⟩ := h
  exact ⟨σ', q.from s⟩
theorem EOk.from {E : EN} {D : Ends} (s : Same F F1) (h : EOk K S F E D) : EOk K S F1 E D := ⟨fun _ _ q => h.nx _ _ (q.from s), fun _ _ q => h.rt _ _ (q.from s), fun _ _ q => h.bk _ _ (q.from s), fun _ _ q => h.ct _ _ (q.from s)⟩

def rNext : RS := fun ρ E => E.nx ρ
def rSeq (r u : RS) : RS := fun ρ E => r ρ { E with nx := fun ρ1 => u ρ1 E }
theorem vx {st : List Stmt} {r r' : RS} (h : r = r') (d : VSs X st r) : VSs X st r' := h ▸ d
theorem vss_nil : VSs X [] rNext := by
  refine PSs.weak pss_nil ?_
  rintro D σ H ⟨S, F, ρ, E, h, hr, w⟩
  exact w.nx _ _ ⟨F, ρ, Same.refl F, h, hr⟩
theorem vss_cons (h1 : VS X st r) (h2 : VSs X rest u) : VSs X (st :: rest) (rSeq r u) := by
  refine PSs.weak (pss_cons h1 h2) ?_
  rintro D σ H ⟨S, F, ρ, E, h, hr, w⟩
  refine ⟨S, F, ρ, { E with nx := fun ρ1 => u ρ1 E }, h, hr, ⟨fun σ' H' ⟨F', ρ', s, h', q⟩ => ?_, w.rt, w.bk, w.ct⟩⟩
  exact ⟨S, F', ρ', E, h', q, w.from s⟩
theorem vss_one (h1 : VS X st r) : VSs X [st] r := pss_one h1
def rNever : RS := fun _ _ => False
theorem vs_never : VS X st rNever := by
  refine PS.weak ps_never ?_
  rintro D σ H ⟨S, F, ρ, E, h, hr, w⟩
  exact hr
/-- an expression whose value is dropped -/
def rDrop (re : RE) : RS := fun ρ E => re ρ fun _ _ ρ1 => E.nx ρ1
theorem vs_expr {re : RE} (he : VE X e re) (hs : swapsWith e none pos.line X.env = pure false := by rfl) : VS X (.Expr e pos) (rDrop re) := by
  refine PS.weak (ps_expr he hs) ?_
  rintro D σ H ⟨S, F, ρ, E, h, hr, w⟩
  refine tV.mk h hr fun v H1 q => ?_
  obtain ⟨F1, ρ1, d, k, s1, h1, r1, q1⟩ := q.fz
  exact w.nx _ _ ⟨F1, ρ1, s1, h1, q1⟩
def rRet (re : RE) : RS := fun ρ E => re ρ E.rt
theorem vs_ret {re : RE} (he : VE X e re) : VS X (.Return (some e) pos) (rRet re) := by
  refine PS.weak (ps_ret he) ?_
  rintro D σ H ⟨S, F, ρ, E, h, hr, w⟩
  exact tV.mk h hr fun v H1 q => w.rt _ _ ⟨σ, q⟩
def rIf (rt : RT) (r u : RS) : RS := fun ρ E => rt ρ fun c ρ1 => way c (r ρ1 E) (u ρ1 E)
theorem vs_if {rt : RT} {sa sb : List Stmt} (hc : VT X c rt) (ha : VSs X sa r) (hb : VSs X sb u) : VS X (.If c sa sb pos) (rIf rt r u) := by
  refine PS.weak (ps_if hc ha hb) ?_
  rintro D σ H ⟨S, F, ρ, E, h, hr, w⟩
  refine tVT.mk h hr fun d H1 ⟨F1, ρ1, s1, h1, q1⟩ => way.if ⟨fun e => ?_, fun e => ?_⟩
  · exact ⟨S, F1, ρ1, E, h1, q1.1 e, w.from s1⟩
  · exact ⟨S, F1, ρ1, E, h1, q1.2 e, w.from s1⟩
/-- x = e -/
def rSet (i : Nat) (re : RE) : RS := fun ρ E => re ρ fun d k ρ1 => noIo ρ1 i = true ∧ E.nx (ρ1.set i (mkSl k d))
theorem vs_set {i : Nat} {x : Str} {re : RE} {pos' : Pos} (hN : X.N.Nodup) (hi : X.N[i]? = some x) (hx : Loc X.env.scope x) (he : VE X e re) (hs : swapsWith e (some (.Name x pos')) pos.line X.env = pure false := by rfl) (hf : X.fn x = true ∨ X.env.scope.names.lookup x = some .local := by first | exact .inl rfl | exact .inr rfl | assumption) :
    VS X (.Assign [.Name x pos'] e pos) (rSet i re) := by
  refine PS.weak (ps_set hN hi hx he hs hf) ?_
  rintro D σ H ⟨S, F, ρ, E, h, hr, w⟩
  refine tV.mk h hr fun v H1 q => ?_
  obtain ⟨F1, ρ1, d, k, tm, s1, ⟨fps, h1⟩, r1, q0, q1⟩ := q
  exact w.nx _ _ ⟨F1, _, s1, ⟨_, h1.store r1 q0⟩, q1⟩
/-- e1, e2: what is owned stays pending -/
abbrev R2E := Ev → (D → Nat → D → Nat → Ev → Prop) → Prop
def r2 (ra rb : RE) : R2E := fun ρ Q => ra ρ fun d1 k1 ρ1 => rb ρ1 fun d2 k2 ρ2 => Q d1 k1 d2 k2 ρ2
/-- a, b = e1, e2 -/
def rPar (i j : Nat) (ra rb : RE) : RS := fun ρ E => ra ρ fun d1 k1 ρ1 => rb ρ1 fun d2 k2 ρ2 => noIo ρ2 i = true ∧ noIo ρ2 j = true ∧ E.nx ((ρ2.set i (mkSl k1 d1)).set j (mkSl k2 d2))
theorem tmp_own {K : Fg} {S : Frm} {F F' H H' : Hp} {σ σ' : L2.St} {ρ ρ' : Ev} {fps fps' : Nat → List Addr} {tm tmp tm' : List (Addr × HO)} {k : Nat} {d : D} {v : V} (s : Same F F') (h : SRf K S F H σ ρ fps (tm ++ tmp)) (h' : SRf K S F' H' σ' ρ' fps' (tm' ++ (tm ++ tmp))) (r : OwnR K F H k d v (tm.map (·.1))) : OwnR K F' H' k d v (tm.map (·.1)) := by
  refine OwnR.mono s k d v _ (fun a ha => ?_) r
  obtain ⟨t, ht, e⟩ := List.mem_map.mp ha
  subst e
  rw [(h.freeT t (List.mem_append_left _ ht)).2.2, (h'.freeT t (List.mem_append_right _ (List.mem_append_left _ ht))).2.2]
theorem noIo_set {ρ : Ev} {i j k : Nat} {d : D} (h : noIo ρ j = true) (hi : noIo ρ i = true) : noIo (ρ.set i (mkSl k d)) j = true := by
  unfold noIo at h hi ⊢
  by_cases q : j = i
  · subst q
    have hl : j < ρ.length := by
      cases q : ρ[j]? with
      | none => rw [q] at h; cases h
      | some s => exact (List.getElem?_eq_some_iff.mp q).1
    rw [List.getElem?_set_self hl]
    cases k <;> rfl
  · rw [List.getElem?_set_ne (Ne.symm q)]
    exact h
theorem store2 {K : Fg} {S : Frm} {F H : Hp} {σ : L2.St} {ρ : Ev} {fps : Nat → List Addr} {tm1 tm2 : List (Addr × HO)} {k1 k2 i j : Nat} {d1 d2 : D} {v1 v2 : V} (h : SRf K S F H σ ρ fps (tm2 ++ (tm1 ++ []))) (r1 : OwnR K F H k1 d1 v1 (tm1.map (·.1))) (r2 : OwnR K F H k2 d2 v2 (tm2.map (·.1))) (hi : noIo ρ i = true) (hj : noIo ρ j = true) (hij : i ≠ j) :
    SR K S F H ((σ.set i (some v1)).set j (some v2)) ((ρ.set i (mkSl k1 d1)).set j (mkSl k2 d2)) [] := by
  have h1 := h.store r2 hj
  have h2 := h1.store r1 (i := i) (noIo_set hi hj)
  rw [List.set_comm _ _ (Ne.symm hij), List.set_comm (mkSl k2 d2) _ (Ne.symm hij)] at h2
  exact ⟨_, h2⟩
theorem vs_par {i j : Nat} {x y : Str} {ra rb : RE} {px py pt : Pos} {kt k2 pt2} (hc : X.calm = true) (hN : X.N.Nodup) (hi : X.N[i]? = some x) (hj : X.N[j]? = some y) (hij : i ≠ j)
    (hx : X.env.scope.names.lookup x = some .local) (hy : X.env.scope.names.lookup y = some .local) (ha : VE X a ra) (hb : VE X b rb)
    (hw : swappedStores [.Tuple [.Name x px, .Name y py] kt pt] (.Tuple [a, b] k2 pt2) X.env = pure (some [x, y]))
    (s1 : starEach [a, b] X.env = (false, eval a X.env) :: starEach [b] X.env := by rfl) (s2 : starEach [b] X.env = (false, eval b X.env) :: starEach [] X.env := by rfl)
    (hs : swapsWithSole [.Tuple [.Name x px, .Name y py] kt pt] (.Tuple [a, b] k2 pt2) pos.line X.env = pure false := by rfl) :
    VS X (.Assign [.Tuple [.Name x px, .Name y py] kt pt] (.Tuple [a, b] k2 pt2) pos) (rPar i j ra rb) := by
  refine PS.weak (ps_par hc hN hi hj hij hx hy (pa_cons ha (pa_cons hb pa_nil s2) s1) hw hs) ?_
  rintro D σ H ⟨S, F, ρ, E, h, hr, w⟩
  refine tV.mk h hr fun v1 H1 q => ?_
  obtain ⟨F1, ρ1, d1, k1, tm1, s1, ⟨fps1, h1⟩, r1, q1⟩ := q
  refine tV.mk ⟨fps1, h1⟩ q1 fun v2 H2 q => ?_
  obtain ⟨F2, ρ2, d2, k2, tm2, s2, ⟨fps2, h2⟩, r2, n1, n2, q2⟩ := q
  refine ⟨v1, v2, rfl, w.nx _ _ ⟨F2, _, s1.trans s2, ?_, q2⟩⟩
  exact store2 h2 (tmp_own s2 h1 h2 r1) r2 n1 n2 hij
/-- a, b, c = e1, e2, e3 -/
def rPar3 (i j l : Nat) (ra rb rc : RE) : RS := fun ρ E => ra ρ fun d1 k1 ρ1 => rb ρ1 fun d2 k2 ρ2 => rc ρ2 fun d3 k3 ρ3 => noIo ρ3 i = true ∧ noIo ρ3 j = true ∧ noIo ρ3 l = true ∧ E.nx (((ρ3.set i (mkSl k1 d1)).set j (mkSl k2 d2)).set l (mkSl k3 d3))

/-! ### while -/
def whL (rt : RT) (rb : RS) : Nat → Ev → EN → Prop
  | 0, _, _ => False
  | n + 1, ρ, E => rt ρ fun c ρ1 => way c (rb ρ1 { nx := fun ρ2 => whL rt rb n ρ2 E, rt := E.rt, ct := fun ρ2 => whL rt rb n ρ2 E, bk := E.nx }) (E.nx ρ1)
def rWhile (rt : RT) (rb : RS) : RS := fun ρ E => ∃ n, whL rt rb n ρ E
theorem vs_while {rt : RT} {rb : RS} {body : List Stmt} (hp : PassesOwn (model X.prog X.w) X.A X.env X.xe) (hc : VT X c rt) (hb : VSs X body rb) : VS X (.While c body [] pos) (rWhile rt rb) := by
  refine PS.weak (ps_while hp hc hb) ?_
  rintro D σ H ⟨S, F, ρ, E, h, ⟨n, hr⟩, w⟩
  refine ⟨fun m σ H => ∃ F' ρ', Same F F' ∧ SR X.K S F' H σ ρ' [] ∧ whL rt rb m ρ' E, ⟨n, F, ρ, Same.refl F, h, hr⟩, ?_⟩
  rintro m σ H ⟨F1, ρ1, s1, h1, hr⟩
  cases m with
  | zero => exact hr.elim
  | succ m =>
    refine tVT.mk h1 hr fun d H2 ⟨F2, ρ2, s2, h2, q2⟩ => way.if ⟨fun e => ?_, fun e => ?_⟩
    · refine ⟨fun σ' H' => ∃ F' ρ', Same F F' ∧ SR X.K S F' H' σ' ρ' [] ∧ whL rt rb m ρ' E, fun σ' H' q => ⟨m, Nat.lt_succ_self m, q⟩, S, F2, ρ2, _, h2, q2.1 e, ?_⟩
      have s12 := s1.trans s2
      exact ⟨fun σ' H' ⟨F', ρ', s, h', q⟩ => ⟨F', ρ', s12.trans s, h', q⟩, fun v H' q => w.rt _ _ (q.from s12), fun σ' H' q => w.nx _ _ (q.from s12), fun σ' H' ⟨F', ρ', s, h', q⟩ => ⟨F', ρ', s12.trans s, h', q⟩⟩
    · exact w.nx _ _ ⟨F2, ρ2, s1.trans s2, h2, q2.2 e⟩

/-! ### targets: the slots that are touched, and what comes of it -/
abbrev RG := D → Ev → (Ev → Prop) → Prop
def Kept (is : List Nat) (σ σ' : L2.St) : Prop := σ'.length = σ.length ∧ ∀ m, m ∉ is → σ'[m]? = σ[m]?
def gV (K : Fg) (is : List Nat) (r : RG) : TG := fun v σ H Q' => ∃ S F ρ tmp Q d, SR K S F H σ ρ tmp ∧ Rep K F d v ∧ r d ρ Q ∧ ∀ σ' H', Kept is σ σ' → (∃ F' ρ', Same F F' ∧ SR K S F' H' σ' ρ' tmp ∧ Q ρ') → Q' σ' H'
def VG (X : Cx) (is : List Nat) (tg : Expr) (r : RG) : Prop := PG X tg (gV X.K is r)
abbrev RGs := List D → Ev → (Ev → Prop) → Prop
def gVs (K : Fg) (is : List Nat) (r : RGs) : TGs := fun vs σ H Q' => ∃ S F ρ tmp Q ds, SR K S F H σ ρ tmp ∧ Reps K F ds vs ∧ r ds ρ Q ∧ ∀ σ' H', Kept is σ σ' → (∃ F' ρ', Same F F' ∧ SR K S F' H' σ' ρ' tmp ∧ Q ρ') → Q' σ' H'
def VGs (X : Cx) (is : List Nat) (tg : List Expr) (r : RGs) : Prop := PGs X tg (gVs X.K is r)
theorem PG.weak {tg : Expr} {t t' : TG} (h : PG X tg t) (w : ∀ v σ H Q, t' v σ H Q → t v σ H Q) : PG X tg t' := ⟨fun pins s σ H v u Q I r q => h.run pins s σ H v u Q I r (w _ _ _ _ q)⟩
theorem PGs.weak {tg : List Expr} {t t' : TGs} (h : PGs X tg t) (w : ∀ v σ H Q, t' v σ H Q → t v σ H Q) : PGs X tg t' := ⟨fun pins s σ H v u Q I r q => h.run pins s σ H v u Q I r (w _ _ _ _ q)⟩
theorem Kept.set {i : Nat} {σ : L2.St} {o : Option V} : Kept [i] σ (σ.set i o) := ⟨by simp, fun m h => by rw [List.getElem?_set_ne (fun z => h (by simp [z]))]⟩
theorem Kept.trans {is js : List Nat} {σ σ' σ2 : L2.St} (a : Kept is σ σ') (b : Kept js σ' σ2) : Kept (is ++ js) σ σ2 := ⟨b.1.trans a.1, fun m h => (b.2 m fun z => h (List.mem_append_right _ z)).trans (a.2 m fun z => h (List.mem_append_left _ z))⟩
def rgName (i : Nat) : RG := fun d ρ Q => noIo ρ i = true ∧ Q (ρ.set i (.fz d))
theorem vg_name {i : Nat} {x : Str} (hN : X.N.Nodup) (hi : X.N[i]? = some x) (hx : Loc X.env.scope x) (hf : X.fn x = true ∨ X.env.scope.names.lookup x = some .local := by first | exact .inl rfl | exact .inr rfl | assumption) : VG X [i] (.Name x pos) (rgName i) := by
  refine PG.weak (pg_name hN hi hx hf) ?_
  rintro v σ H Q' ⟨S, F, ρ, tmp, Q, d, ⟨fps, h⟩, rp, ⟨n, q⟩, w⟩
  exact w _ _ Kept.set ⟨F, _, Same.refl F, ⟨_, SRf.store (tm := []) (k := 0) h ⟨rfl, rp⟩ n⟩, q⟩
def rgNil : RGs := fun ds ρ Q => match ds with | [] => Q ρ | _ => False
def rgCons (r : RG) (u : RGs) : RGs := fun ds ρ Q => match ds with | d :: ds => r d ρ fun ρ1 => u ds ρ1 Q | [] => False
theorem vgs_nil : VGs X [] [] rgNil := by
  refine PGs.weak pgs_nil ?_
  rintro vs σ H Q' ⟨S, F, ρ, tmp, Q, ds, h, rp, q, w⟩
  cases ds with
  | nil => exact ⟨rp, w _ _ ⟨rfl, fun _ _ => rfl⟩ ⟨F, ρ, Same.refl F, h, q⟩⟩
  | cons _ _ => exact q.elim
theorem vgs_cons {is js : List Nat} {r : RG} {u : RGs} (h1 : VG X is e r) (h2 : VGs X js es u) (hs : (assignEach (e :: es) X.env).map (·.2) = assign e X.env :: (assignEach es X.env).map (·.2) := by rfl) : VGs X (is ++ js) (e :: es) (rgCons r u) := by
  refine PGs.weak (pgs_cons h1 h2 hs) ?_
  rintro vs σ H Q' ⟨S, F, ρ, tmp, Q, ds, h, rp, q, w⟩
  cases ds with
  | nil => exact q.elim
  | cons d ds =>
    obtain ⟨v, rest, e1, rv, rr⟩ := rp
    refine ⟨v, rest, e1, S, F, ρ, tmp, _, d, h, rv, q, fun σ' H' k1 ⟨F1, ρ1, s1, h1, q1⟩ => ?_⟩
    exact ⟨S, F1, ρ1, tmp, Q, ds, h1, Reps.mono s1 _ _ rr, q1, fun σ2 H2 k2 ⟨F2, ρ2, s2, h2, q2⟩ => w _ _ (k1.trans k2) ⟨F2, ρ2, s1.trans s2, h2, q2⟩⟩
def rgTup (n : Nat) (u : RGs) : RG := fun d ρ Q => match d with | .tup ds => ds.length = n ∧ u ds ρ Q | _ => False
theorem vg_tup {is : List Nat} {k : Nat} {u : RGs} {n : Nat} (hc : X.calm = true) (h : VGs X is es u) (hn : (assignEach es X.env).length = n := by rfl) (hst : (assignEach es X.env).findIdx? (·.1) = none := by rfl) : VG X is (.Tuple es k pos) (rgTup n u) := by
  refine PG.weak (pg_tup hc h hn hst) ?_
  rintro v σ H Q' ⟨S, F, ρ, tmp, Q, d, h, rp, q, w⟩
  cases d with
  | tup ds =>
    obtain ⟨p, vs, e, hp, rr⟩ := rp
    refine ⟨p, vs, e, hp.sq ?_, by rw [rr.length]; exact q.1, S, F, ρ, tmp, Q, ds, h, rr, q.2, w⟩
    obtain ⟨_, h⟩ := h
    exact h.sub
  | _ => exact q.elim
/-- target = e, the target no name -/
def rAsg (re : RE) (rg : RG) : RS := fun ρ E => re ρ fun d _ ρ1 => rg d ρ1 E.nx
theorem vs_asg {is : List Nat} {tg : Expr} {re : RE} {rg : RG} (he : VE X e re) (hg : VG X is tg rg) (hs : swapsWithSole [tg] e pos.line X.env = pure false := by rfl) (hw : swappedStores [tg] e X.env = pure none := by rfl)
    (h1 : (assignEach [tg] X.env).map (·.2) = [assign tg X.env] := by rfl) : VS X (.Assign [tg] e pos) (rAsg re rg) := by
  refine PS.weak (ps_asg he hg hs hw h1) ?_
  rintro D σ H ⟨S, F, ρ, E, h, hr, w⟩
  refine tV.mk h hr fun v H1 q => ?_
  obtain ⟨F1, ρ1, d, k, s1, h1, r1, q1⟩ := q.fz
  exact ⟨S, F1, ρ1, [], _, d, h1, r1, q1, fun σ' H' _ ⟨F2, ρ2, s2, h2, q2⟩ => w.nx _ _ ⟨F2, ρ2, s1.trans s2, h2, q2⟩⟩

/-! ### what is walked -/
/-- the frozen part grows by one tuple, or not -/
inductive FX (F H : Hp) : Hp → Hp → Prop
  | same : FX F H F H
  | tup {p : Addr} {vs : List V} : H p = none → FX F H (upd F p (.tup vs)) (upd H p (.tup vs))
theorem FX.sr {fps : Nat → List Addr} (h : SRf K S F H σ ρ fps tmp) (x : FX F H F' H') : Same F F' ∧ SRf K S F' H' σ ρ fps tmp := by
  cases x with
  | same => exact ⟨Same.refl F, h⟩
  | tup hp => exact ⟨Same.upd (h.free_at hp), h.allocF hp⟩
structure Wk (K : Fg) (F1 : Hp) (items : List D) (J : It) : Prop where
  go : ∀ (F H : Hp) i, Same F1 F → Same F H → i < items.length → J.go i H
  yld : ∀ (F H H' : Hp) i d x, Same F1 F → Same F H → items[i]? = some d → J.yld i H x H' → ∃ F', FX F H F' H' ∧ Rep K F' d x
  stop : ∀ (F H : Hp) i, Same F1 F → Same F H → items.length ≤ i → J.stop i H
abbrev RI := Ev → (List D → Ev → Prop) → Prop
def IPost (K : Fg) (S : Frm) (F : Hp) (σ : L2.St) (tmp : List (Addr × HO)) (Q : List D → Ev → Prop) : It → Hp → Prop := fun J H' => ∃ F' ρ' items, Same F F' ∧ SR K S F' H' σ ρ' tmp ∧ Wk K F' items J ∧ Q items ρ'
def tVI (K : Fg) (r : RI) : TI := fun σ H Q' => ∃ S F ρ tmp Q, SR K S F H σ ρ tmp ∧ r ρ Q ∧ ∀ J H', IPost K S F σ tmp Q J H' → Q' J H'
def VI (X : Cx) (tg iter : Expr) (r : RI) : Prop := PI X tg iter (tVI X.K r)
theorem PI.weak {tg iter : Expr} {t t' : TI} (h : PI X tg iter t) (w : ∀ σ H R, t' σ H R → t σ H R) : PI X tg iter t' := ⟨fun pins s σ H R I q => h.run pins s σ H R I (w _ _ _ q)⟩
theorem PI.or {tg iter : Expr} {t t' : TI} (h : PI X tg iter t) (h' : PI X tg iter t') : PI X tg iter (fun σ H R => t σ H R ∨ t' σ H R) := ⟨fun pins s σ H R I q => q.elim (h.run pins s σ H R I) (h'.run pins s σ H R I)⟩
theorem SqL.fun {K : Fg} {H : Hp} {a : Addr} {xs ys : List V} (h : H a = some (.lst xs)) (q : SqL K H a ys) (hk : ∀ o, K.lookup a = some o → H a = none) : ys = xs := by
  rcases q with (q | ⟨o, q⟩) | ⟨o, its, n, q, _⟩
  · rw [h] at q; cases q; rfl
  · rw [h] at q; cases q
  · have := hk o q
    rw [h] at this; cases this
def isLt : D → Option (List D)
  | .lst ds => some ds
  | .tup ds => some ds
  | .scr ns => some (ns.map .int)
  | _ => none
def riSeq (r : RE) : RI := fun ρ Q => r ρ fun d _ ρ1 => ∃ ds, isLt d = some ds ∧ Q ds ρ1
theorem Reps.ofInts {K : Fg} {F : Hp} : ∀ ns : List Int, Reps K F (ns.map .int) (ns.map V.int)
  | [] => rfl
  | n :: ns => ⟨_, _, rfl, rfl, Reps.ofInts ns⟩
theorem wk_list {p : Addr} {vs : List V} {ds : List D} (h : ∀ H, Same F1 H → SqL K H p vs) (r : Reps K F1 ds vs) : Wk K F1 ds (Itl K p) where
  go := fun F H i s1 s2 hi => by
    have hi2 : i < vs.length := by rw [r.length]; exact hi
    exact ⟨vs, vs[i], h H (s1.trans s2), by simp [hi2]⟩
  yld := fun F H H' i d x s1 s2 e y => by
    obtain ⟨e1, y⟩ := y
    subst e1
    have q := y vs (h _ (s1.trans s2))
    obtain ⟨v, e2, rv⟩ := r.get e
    rw [q] at e2
    cases e2
    exact ⟨F, .same, Rep.mono s1 _ _ rv⟩
  stop := fun F H i s1 s2 hi => ⟨vs, h H (s1.trans s2), by rw [r.length]; exact hi⟩
theorem wk_tup {p : Addr} {vs : List V} {ds : List D} (h : TupAt K F1 p vs) (r : Reps K F1 ds vs) : Wk K F1 ds (Itt K p) where
  go := fun F H i s1 s2 hi => by
    have hi2 : i < vs.length := by rw [r.length]; exact hi
    exact ⟨vs, vs[i], h.sq (s1.trans s2), by simp [hi2]⟩
  yld := fun F H H' i d x s1 s2 e y => by
    obtain ⟨e1, y⟩ := y
    subst e1
    have q := y vs (h.sq (s1.trans s2))
    obtain ⟨v, e2, rv⟩ := r.get e
    rw [q] at e2
    cases e2
    exact ⟨F, .same, Rep.mono s1 _ _ rv⟩
  stop := fun F H i s1 s2 hi => ⟨vs, h.sq (s1.trans s2), by rw [r.length]; exact hi⟩
theorem pi_seq {tg l : Expr} {tl : TE} (hl : PE X l tl) : PI X tg l (fun σ H R => tl σ H fun x H1 => ∃ a, x = .ref a ∧ (((∃ xs, SqL X.K H1 a xs) ∧ R (Itl X.K a) H1) ∨ ((∃ xs, SqT X.K H1 a xs) ∧ R (Itt X.K a) H1))) := by
  refine ⟨fun pins s σ H R I h => ?_⟩
  refine thn (hl.run pins s σ H _ I h) fun v s1 ⟨x, H1, I1, r1, q1⟩ => ?_
  obtain ⟨a, e, q1⟩ := q1
  subst e
  cases r1
  rcases q1 with ⟨⟨xs, hq⟩, q⟩ | ⟨⟨xs, hq⟩, q⟩
  · obtain ⟨its, rv, p, hz⟩ := I1.list hq
    refine wpAny_pyIter_list p.isList ?_
    refine ⟨s1.heap.objs.size, [s1.heap.objs.size], _, _, H1, rfl, I1.kept (t' := s1.toks) fun b o e => Heap.get?_push_of_some _ e, turn_list a _, ⟨_, Heap.get?_push_size _ rfl, rfl, rfl⟩, fun b hb => ?_, q⟩
    have e : b = s1.heap.objs.size := by simpa using hb
    subst e
    exact I1.fpOk (Nat.le_refl _) (I1.hok.fresh (Nat.le_refl _))
  · obtain ⟨its, rv, p, hz⟩ := I1.tuple hq
    refine wpAny_pyIter_tuple (show s1.heap.IsTuple a its.toArray from p) ?_
    refine ⟨s1.heap.objs.size, [s1.heap.objs.size], _, _, H1, rfl, I1.kept (t' := s1.toks) fun b o e => Heap.get?_push_of_some _ e, turn_tuple a _, ⟨_, Heap.get?_push_size _ rfl, rfl, rfl⟩, fun b hb => ?_, q⟩
    have e : b = s1.heap.objs.size := by simpa using hb
    subst e
    exact I1.fpOk (Nat.le_refl _) (I1.hok.fresh (Nat.le_refl _))
theorem vi_seq {tg : Expr} {r : RE} (h : VE X e r) : VI X tg e (riSeq r) := by
  refine PI.weak (pi_seq h) ?_
  rintro σ H R ⟨S, F, ρ, tmp, Q, h, hr, w⟩
  refine tV.mk h hr fun v H1 q => ?_
  obtain ⟨F1, ρ1, d, k, s1, h1, r1, ds, e1, q1⟩ := q.fz
  have sub : Same F1 H1 := by obtain ⟨_, h1⟩ := h1; exact h1.sub
  cases d with
  | lst es =>
    cases e1
    obtain ⟨p, vs, e, hp, rr⟩ := r1
    exact ⟨p, e, .inl ⟨⟨vs, .inl (.inl (sub _ _ hp))⟩, w _ _ ⟨F1, ρ1, ds, s1, h1, wk_list (fun H s => .inl (.inl (s _ _ hp))) rr, q1⟩⟩⟩
  | tup es =>
    cases e1
    obtain ⟨p, vs, e, hp, rr⟩ := r1
    exact ⟨p, e, .inr ⟨⟨vs, hp.sq sub⟩, w _ _ ⟨F1, ρ1, ds, s1, h1, wk_tup hp rr, q1⟩⟩⟩
  | scr ns =>
    cases e1
    obtain ⟨p, e, hp⟩ := r1
    exact ⟨p, e, .inl ⟨⟨_, SqL.mono sub hp⟩, w _ _ ⟨F1, ρ1, _, s1, h1, wk_list (fun H s => SqL.mono s hp) (Reps.ofInts ns), q1⟩⟩⟩
  | _ => cases e1
/-- range -/
def rgL (lo hi : Int) : List D := (List.range (hi - lo).toNat).map fun i => .int (lo + (i : Nat))
theorem wk_range (lo : Int) (n : Nat) : Wk K F1 ((List.range n).map fun i => .int (lo + (i : Nat))) (Itr lo n) where
  go := fun F H i s1 s2 hi => by rw [List.length_map, List.length_range] at hi; exact hi
  yld := fun F H H' i d x s1 s2 e y => by
    obtain ⟨e1, y⟩ := y
    subst e1
    rw [List.getElem?_map] at e
    cases q : (List.range n)[i]? with
    | none => rw [q] at e; cases e
    | some j =>
      rw [q] at e
      cases e
      have z : j = i := by
        obtain ⟨h1, h2⟩ := List.getElem?_eq_some_iff.mp q
        rw [List.getElem_range] at h2
        exact h2.symm
      subst z
      exact ⟨F, .same, y⟩
  stop := fun F H i s1 s2 hi => by rw [List.length_map, List.length_range] at hi; exact hi
def riRng1 (r : RF) : RI := fun ρ Q => r ρ fun ds ρ1 => match ds with | [.int j] => (-(2 ^ 62) ≤ j ∧ j < 2 ^ 62) ∧ Q ((List.range j.toNat).map fun i => .int (0 + (i : Nat))) ρ1 | _ => False
def riRng2 (r : RF) : RI := fun ρ Q => r ρ fun ds ρ1 => match ds with | [.int i, .int j] => (-(2 ^ 62) ≤ i ∧ i < 2 ^ 62 ∧ -(2 ^ 62) ≤ j ∧ j < 2 ^ 62) ∧ Q ((List.range (j - i).toNat).map fun k => .int (i + (k : Nat))) ρ1 | _ => False
theorem vi_rng1 {tg : Expr} {r : RF} (hg : Gl X "range") (hm : X.mg "range" = none) (ha : VF X [a] r) (hs : starEach [a] X.env = [(false, eval a X.env)] := by rfl) : VI X tg (.Call (.Name "range" p) [a] [] pos) (riRng1 r) := by
  refine PI.weak (pi_range1 hg hm ha hs) ?_
  rintro σ H R ⟨S, F, ρ, tmp, Q, h, hr, w⟩
  refine tVF.mk h hr fun vs H1 ⟨F1, ρ1, ds, s1, h1, v1, q1⟩ => ?_
  cases ds with
  | nil => exact q1.elim
  | cons d r =>
    cases r with
    | cons _ _ => cases d <;> exact q1.elim
    | nil =>
      cases d with
      | int j =>
        obtain ⟨v, u, e, rv, ru⟩ := v1
        cases rv
        cases ru
        exact ⟨j, e, q1.1.1, q1.1.2, w _ _ ⟨F1, ρ1, _, s1, h1, wk_range 0 j.toNat, q1.2⟩⟩
      | _ => exact q1.elim
theorem vi_rng2 {tg : Expr} {r : RF} (hg : Gl X "range") (hm : X.mg "range" = none) (ha : VF X [a, b] r) (hs : starEach [a, b] X.env = [(false, eval a X.env), (false, eval b X.env)] := by rfl) (hs2 : starEach [b] X.env = [(false, eval b X.env)] := by rfl) :
    VI X tg (.Call (.Name "range" p) [a, b] [] pos) (riRng2 r) := by
  refine PI.weak (pi_range2 hg hm ha hs hs2) ?_
  rintro σ H R ⟨S, F, ρ, tmp, Q, h, hr, w⟩
  refine tVF.mk h hr fun vs H1 ⟨F1, ρ1, ds, s1, h1, v1, q1⟩ => ?_
  cases ds with
  | nil => exact q1.elim
  | cons d r =>
    cases r with
    | nil => cases d <;> exact q1.elim
    | cons d2 r =>
      cases r with
      | cons _ _ => cases d <;> first | exact q1.elim | (cases d2 <;> exact q1.elim)
      | nil =>
        cases d with
        | int i =>
          cases d2 with
          | int j =>
            obtain ⟨v, u, e, rv, u2, t, e2, rv2, ru⟩ := v1
            cases rv
            cases rv2
            cases ru
            subst e2
            exact ⟨i, j, e, q1.1, w _ _ ⟨F1, ρ1, _, s1, h1, wk_range i (j - i).toNat, q1.2⟩⟩
          | _ => exact q1.elim
        | _ => exact q1.elim
/-- enumerate of a list -/
def enumL : Nat → List D → List D
  | _, [] => []
  | n, d :: ds => .tup [.int (n : Int), d] :: enumL (n + 1) ds
theorem enumL_len : ∀ (n : Nat) (ds : List D), (enumL n ds).length = ds.length
  | _, [] => rfl
  | n, d :: ds => by show (enumL (n + 1) ds).length + 1 = _; rw [enumL_len]; rfl
theorem enumL_get : ∀ (n : Nat) (ds : List D) (i : Nat) (d : D), (enumL n ds)[i]? = some d → ∃ x, ds[i]? = some x ∧ d = .tup [.int ((n + i : Nat) : Int), x]
  | _, [], _, _, e => by cases e
  | n, x :: ds, 0, d, e => by cases e; exact ⟨x, rfl, rfl⟩
  | n, x :: ds, i + 1, d, e => by
    obtain ⟨y, e1, e2⟩ := enumL_get (n + 1) ds i d e
    exact ⟨y, e1, by rw [e2, Nat.add_assoc, Nat.add_comm 1 i]⟩
theorem wk_enum {p : Addr} {vs : List V} {ds : List D} (h : F1 p = some (.lst vs)) (r : Reps K F1 ds vs) : Wk K F1 (enumL 0 ds) (Ite K p) where
  go := fun F H i s1 s2 hi => by
    rw [enumL_len] at hi
    have hi2 : i < vs.length := by rw [r.length]; exact hi
    exact ⟨vs, vs[i], .inl (.inl (s2 _ _ (s1 _ _ h))), by simp [hi2]⟩
  yld := fun F H H' i d x s1 s2 e y => by
    obtain ⟨T, x1, e1, hT, e2, y⟩ := y
    subst e2
    have q := y vs (.inl (.inl (s2 _ _ (s1 _ _ h))))
    obtain ⟨x0, e3, e4⟩ := enumL_get 0 ds i d e
    obtain ⟨v, e5, rv⟩ := r.get e3
    rw [q] at e5
    cases e5
    have fT := s2.free hT
    refine ⟨_, .tup hT, ?_⟩
    subst e4
    refine ⟨T, _, e1, .inl upd_same, _, _, rfl, ?_, _, _, rfl, Rep.mono (s1.trans (Same.upd fT)) _ _ rv, rfl⟩
    rw [Nat.zero_add]
    exact rfl
  stop := fun F H i s1 s2 hi => by
    rw [enumL_len] at hi
    exact ⟨vs, .inl (.inl (s2 _ _ (s1 _ _ h))), by rw [r.length]; exact hi⟩
/-- zip of two lists, of two tuples -/
def zipL (xs ys : List D) : List D := List.zipWith (fun x y => .tup [x, y]) xs ys
theorem wk_zipL {p q : Addr} {vs us : List V} {ds es : List D} (h : F1 p = some (.lst vs)) (h' : F1 q = some (.lst us)) (r : Reps K F1 ds vs) (r' : Reps K F1 es us) : Wk K F1 (zipL ds es) (Itz K p q) where
  go := fun F H i s1 s2 hi => by
    unfold zipL at hi
    rw [List.length_zipWith] at hi
    have hi1 : i < vs.length := by rw [r.length]; omega
    have hi2 : i < us.length := by rw [r'.length]; omega
    exact ⟨vs, us, vs[i], us[i], .inl (.inl (s2 _ _ (s1 _ _ h))), .inl (.inl (s2 _ _ (s1 _ _ h'))), by simp [hi1], by simp [hi2]⟩
  yld := fun F H H' i d x s1 s2 e y => by
    obtain ⟨T, x1, x2, e1, hT, e2, y1, y2⟩ := y
    subst e2
    have q1 := y1 vs (.inl (.inl (s2 _ _ (s1 _ _ h))))
    have q2 := y2 us (.inl (.inl (s2 _ _ (s1 _ _ h'))))
    unfold zipL at e
    rw [List.getElem?_zipWith] at e
    cases z1 : ds[i]? with
    | none => rw [z1] at e; cases e
    | some d1 =>
      cases z2 : es[i]? with
      | none => rw [z1, z2] at e; cases e
      | some d2 =>
        rw [z1, z2] at e
        cases e
        obtain ⟨v, e5, rv⟩ := r.get z1
        obtain ⟨u, e6, ru⟩ := r'.get z2
        rw [q1] at e5
        rw [q2] at e6
        cases e5
        cases e6
        have fT := s2.free hT
        exact ⟨_, .tup hT, T, _, e1, .inl upd_same, _, _, rfl, Rep.mono (s1.trans (Same.upd fT)) _ _ rv, _, _, rfl, Rep.mono (s1.trans (Same.upd fT)) _ _ ru, rfl⟩
  stop := fun F H i s1 s2 hi => by
    unfold zipL at hi
    rw [List.length_zipWith] at hi
    refine ⟨vs, us, .inl (.inl (s2 _ _ (s1 _ _ h))), .inl (.inl (s2 _ _ (s1 _ _ h'))), ?_⟩
    rw [r.length, r'.length]
    omega
theorem wk_zipT {p q : Addr} {vs us : List V} {ds es : List D} (h : TupAt K F1 p vs) (h' : TupAt K F1 q us) (r : Reps K F1 ds vs) (r' : Reps K F1 es us) : Wk K F1 (zipL ds es) (RZ.ItzT K p q) where
  go := fun F H i s1 s2 hi => by
    unfold zipL at hi
    rw [List.length_zipWith] at hi
    have hi1 : i < vs.length := by rw [r.length]; omega
    have hi2 : i < us.length := by rw [r'.length]; omega
    exact ⟨vs, us, vs[i], us[i], h.sq (s1.trans s2), h'.sq (s1.trans s2), by simp [hi1], by simp [hi2]⟩
  yld := fun F H H' i d x s1 s2 e y => by
    obtain ⟨T, x1, x2, e1, hT, e2, y1, y2⟩ := y
    subst e2
    have q1 := y1 vs (h.sq (s1.trans s2))
    have q2 := y2 us (h'.sq (s1.trans s2))
    unfold zipL at e
    rw [List.getElem?_zipWith] at e
    cases z1 : ds[i]? with
    | none => rw [z1] at e; cases e
    | some d1 =>
      cases z2 : es[i]? with
      | none => rw [z1, z2] at e; cases e
      | some d2 =>
        rw [z1, z2] at e
        cases e
        obtain ⟨v, e5, rv⟩ := r.get z1
        obtain ⟨u, e6, ru⟩ := r'.get z2
        rw [q1] at e5
        rw [q2] at e6
        cases e5
        cases e6
        have fT := s2.free hT
        exact ⟨_, .tup hT, T, _, e1, .inl upd_same, _, _, rfl, Rep.mono (s1.trans (Same.upd fT)) _ _ rv, _, _, rfl, Rep.mono (s1.trans (Same.upd fT)) _ _ ru, rfl⟩
  stop := fun F H i s1 s2 hi => by
    unfold zipL at hi
    rw [List.length_zipWith] at hi
    refine ⟨vs, us, h.sq (s1.trans s2), h'.sq (s1.trans s2), ?_⟩
    rw [r.length, r'.length]
    omega
def riZip (r : RF) : RI := fun ρ Q => r ρ fun ds ρ1 => match ds with
  | [.lst xs, .lst ys] => Q (zipL xs ys) ρ1
  | [.tup xs, .tup ys] => Q (zipL xs ys) ρ1
  | _ => False
theorem vi_zip {tpos : Pos} {elts : List Expr} {kk : Nat} {r : RF} (hg : Gl X "zip") (hm : X.mg "zip" = none) (ha : VF X [a, b] r)
    (hs : starEach [a, b] X.env = (false, eval a X.env) :: starEach [b] X.env := by rfl) (hpl : (backTo pos (starEach [b] X.env)).any (·.1) = false := by rfl) : VI X (.Tuple elts kk tpos) (.Call (.Name "zip" p) [a, b] [] pos) (riZip r) := by
  refine PI.weak (RZ.pi_zipA hg hm ha hs hpl) ?_
  rintro σ H R ⟨S, F, ρ, tmp, Q, h, hr, w⟩
  refine tVF.mk h hr fun vs H1 ⟨F1, ρ1, ds, s1, h1, v1, q1⟩ => ?_
  have sub : Same F1 H1 := by obtain ⟨_, h1⟩ := h1; exact h1.sub
  cases ds with
  | nil => exact q1.elim
  | cons d r =>
    cases r with
    | nil => cases d <;> exact q1.elim
    | cons d2 r =>
      cases r with
      | cons _ _ => cases d <;> first | exact q1.elim | (cases d2 <;> exact q1.elim)
      | nil =>
        obtain ⟨v, u, e, rv, u2, t, e2, rv2, ru⟩ := v1
        cases ru
        subst e2
        cases d with
        | lst xs =>
          cases d2 with
          | lst ys =>
            obtain ⟨p1, vs1, e3, hp1, rr1⟩ := rv
            obtain ⟨p2, vs2, e4, hp2, rr2⟩ := rv2
            subst e3 e4
            exact ⟨p1, p2, vs1, vs2, e, .inl ⟨.inl (.inl (sub _ _ hp1)), .inl (.inl (sub _ _ hp2)), w _ _ ⟨F1, ρ1, _, s1, h1, wk_zipL hp1 hp2 rr1 rr2, q1⟩⟩⟩
          | _ => exact q1.elim
        | tup xs =>
          cases d2 with
          | tup ys =>
            obtain ⟨p1, vs1, e3, hp1, rr1⟩ := rv
            obtain ⟨p2, vs2, e4, hp2, rr2⟩ := rv2
            subst e3 e4
            exact ⟨p1, p2, vs1, vs2, e, .inr ⟨hp1.sq sub, hp2.sq sub, w _ _ ⟨F1, ρ1, _, s1, h1, wk_zipT hp1 hp2 rr1 rr2, q1⟩⟩⟩
          | _ => exact q1.elim
        | _ => exact q1.elim

/-! ### for -/
def forL (rg : RG) (rb : RS) : List D → Ev → EN → Prop
  | [], ρ, E => E.nx ρ
  | d :: ds, ρ, E => rg d ρ fun ρ1 => rb ρ1 { nx := fun ρ2 => forL rg rb ds ρ2 E, rt := E.rt, ct := fun ρ2 => forL rg rb ds ρ2 E, bk := E.nx }
def rFor (ri : RI) (rg : RG) (rb : RS) : RS := fun ρ E => ri ρ fun items ρ1 => forL rg rb items ρ1 E
theorem vs_for {is : List Nat} {tg iter : Expr} {body : List Stmt} {ri : RI} {rg : RG} {rb : RS} (hp : PassesOwn (model X.prog X.w) X.A X.env X.xe) (hc : X.calm = true) (hi : VI X tg iter ri) (hg : VG X is tg rg) (hb : VSs X body rb)
    (hs : ∀ x, foldedSetIterable iter X.env x = pure x := by intro _; rfl) : VS X (.For tg iter body [] pos) (rFor ri rg rb) := by
  refine PS.weak (ps_for hp hc hi hg hb hs) ?_
  rintro D σ H ⟨S, F, ρ, E, h, hr, w⟩
  refine ⟨S, F, ρ, [], _, h, hr, fun J H1 ⟨F1, ρ1, items, s1, h1, wk, q1⟩ => ?_⟩
  refine ⟨fun i m σ H => ∃ F' ρ', Same F1 F' ∧ SR X.K S F' H σ ρ' [] ∧ forL rg rb (items.drop i) ρ' E ∧ m = items.length - i ∧ i ≤ items.length, ⟨_, F1, ρ1, Same.refl F1, h1, q1, rfl, Nat.zero_le _⟩, ?_⟩
  rintro i m σ2 H2 ⟨F2, ρ2, s2, h2, q2, rfl, hi⟩
  have sub : Same F2 H2 := by obtain ⟨_, h2⟩ := h2; exact h2.sub
  by_cases hlt : i < items.length
  · refine .inr ⟨wk.go F2 H2 i s2 sub hlt, fun σ' H' => ∃ F' ρ', Same F1 F' ∧ SR X.K S F' H' σ' ρ' [] ∧ forL rg rb (items.drop (i + 1)) ρ' E, fun σ' H' ⟨F', ρ', z1, z2, z3⟩ => ⟨items.length - (i + 1), by omega, F', ρ', z1, z2, z3, rfl, hlt⟩, fun x H3 y => ?_⟩
    have ed : items.drop i = items[i] :: items.drop (i + 1) := List.drop_eq_getElem_cons hlt
    obtain ⟨F3, fx, rx⟩ := wk.yld F2 H2 H3 i items[i] x s2 sub (List.getElem?_eq_getElem hlt) y
    rw [ed] at q2
    obtain ⟨fps, h2⟩ := h2
    obtain ⟨s3, h3⟩ := fx.sr h2
    refine ⟨S, F3, ρ2, [], _, items[i], ⟨fps, h3⟩, rx, q2, fun σ4 H4 _ ⟨F4, ρ4, s4, h4, q4⟩ => ?_⟩
    have s14 := (s2.trans s3).trans s4
    have s04 := s1.trans s14
    exact ⟨S, F4, ρ4, _, h4, q4, ⟨fun σ' H' ⟨F', ρ', z, h', q⟩ => ⟨F', ρ', s14.trans z, h', q⟩, fun v H' q => w.rt _ _ (q.from s04), fun σ' H' q => w.nx _ _ (q.from s04), fun σ' H' ⟨F', ρ', z, h', q⟩ => ⟨F', ρ', s14.trans z, h', q⟩⟩⟩
  · have e : i = items.length := by omega
    subst e
    rw [List.drop_length] at q2
    exact .inl ⟨wk.stop F2 H2 _ s2 sub (Nat.le_refl _), w.nx _ _ ⟨F2, ρ2, s1.trans s2, h2, q2⟩⟩
end
end VL

namespace VL
open PySem PySem.Spec PyProof.Rows L2

/-! ### what a def promises, over data -/
/-- the arguments; what is wanted of the result, its levels, and of what the changed arguments hold then -/
abbrev ASp := List D → (D → Nat → List D → Prop) → Prop
def ArgsOk (K : Fg) (F H : Hp) : List Bool → List D → List V → List Addr → Prop
  | [], ds, vs, io => ds = [] ∧ vs = [] ∧ io = []
  | false :: bs, ds, vs, io => ∃ d v r r', ds = d :: r ∧ vs = v :: r' ∧ Rep K F d v ∧ ArgsOk K F H bs r r' io
  | true :: bs, ds, vs, io => ∃ d a r r' io', ds = d :: r ∧ vs = .ref a :: r' ∧ io = a :: io' ∧ OwnR K F H 1 d (.ref a) [a] ∧ ArgsOk K F H bs r r' io'
def Outs (K : Fg) (F H : Hp) (io : List Addr) (outs : List D) : Prop := outs.length = io.length ∧ ∀ (j : Nat) (a : Addr), io[j]? = some a → ∃ d, outs[j]? = some d ∧ OwnR K F H 1 d (.ref a) [a]
def CPost (K : Fg) (F H : Hp) (io : List Addr) (Q : D → Nat → List D → Prop) : VK := fun v H' => ∃ F' d k fp outs, Same F F' ∧ Same F' H' ∧ (∀ a, F' a ≠ none → F a ≠ none ∨ H a = none) ∧ (∀ a o, H a = some o → a ∉ io → H' a = some o) ∧ (∀ a, H a ≠ none → H' a ≠ none) ∧
  OwnR K F' H' k d v fp ∧ fp.Nodup ∧ (∀ a ∈ fp, F' a = none ∧ H a = none ∧ H' a ≠ none) ∧ Outs K F' H' io outs ∧ Q d k outs
def liftSp (K : Fg) (ios : List Bool) (sp : ASp) : Sp := fun vs H Q _ => ∃ F ds io R, Same F H ∧ ArgsOk K F H ios ds vs io ∧ io.Nodup ∧ (∀ a ∈ io, F a = none) ∧ sp ds R ∧ ∀ v H', CPost K F H io R v H' → Q v H'
/-- the slots at the entry -/
def rho0 : List Bool → Nat → List D → Ev
  | true :: bs, j, d :: ds => .io j d :: rho0 bs (j + 1) ds
  | false :: bs, j, d :: ds => .fz d :: rho0 bs j ds
  | _, _, _ => []
def outsOf : List Bool → Nat → Ev → Option (List D)
  | [], _, _ => some []
  | true :: bs, j, .io j' d :: ρ => if j' = j then (outsOf bs (j + 1) ρ).map (d :: ·) else none
  | false :: bs, j, _ :: ρ => outsOf bs j ρ
  | _, _, _ => none
def endsOf (ios : List Bool) (R : D → Nat → List D → Prop) : EN where
  nx := fun ρ => ∃ outs, outsOf ios 0 ρ = some outs ∧ R .non 0 outs
  rt := fun d k ρ => ∃ outs, outsOf ios 0 ρ = some outs ∧ R d k outs

section
variable {K : Fg} {F H F' H' : Hp} {S : Frm} {σ : L2.St} {ρ : Ev} {fps : Nat → List Addr} {tmp : List (Addr × HO)}
theorem ArgsOk.len : ∀ {bs : List Bool} {ds : List D} {vs : List V} {io : List Addr}, ArgsOk K F H bs ds vs io → vs.length = bs.length ∧ ds.length = bs.length
  | [], _, _, _, ⟨h1, h2, _⟩ => by subst h1; subst h2; exact ⟨rfl, rfl⟩
  | false :: bs, _, _, _, ⟨d, v, r, r', e1, e2, _, t⟩ => by
    subst e1; subst e2
    obtain ⟨a, b⟩ := ArgsOk.len t
    exact ⟨congrArg (· + 1) a, congrArg (· + 1) b⟩
  | true :: bs, _, _, _, ⟨d, a, r, r', io', e1, e2, e3, _, t⟩ => by
    subst e1; subst e2
    obtain ⟨a, b⟩ := ArgsOk.len t
    exact ⟨congrArg (· + 1) a, congrArg (· + 1) b⟩
def fpl : List Bool → List Addr → Nat → List Addr
  | true :: _, a :: _, 0 => [a]
  | true :: bs, _ :: io, i + 1 => fpl bs io i
  | false :: _, _, 0 => []
  | false :: bs, io, i + 1 => fpl bs io i
  | _, _, _ => []
theorem fpl_mem : ∀ (bs : List Bool) (io : List Addr) (i : Nat) (a : Addr), a ∈ fpl bs io i → a ∈ io
  | true :: _, b :: _, 0, a, h => by
    have e : a = b := by simpa [fpl] using h
    subst e
    simp
  | true :: bs, b :: io, i + 1, a, h => List.mem_cons_of_mem _ (fpl_mem bs io i a h)
  | false :: _, _, 0, a, h => by simp [fpl] at h
  | false :: bs, io, i + 1, a, h => fpl_mem bs io i a h
  | [], _, _, a, h => by simp [fpl] at h
  | true :: _, [], _, a, h => by simp [fpl] at h
theorem fpl_nd : ∀ (bs : List Bool) (io : List Addr) (i : Nat), (fpl bs io i).Nodup
  | true :: _, b :: _, 0 => by simp [fpl]
  | true :: bs, b :: io, i + 1 => fpl_nd bs io i
  | false :: _, _, 0 => by simp [fpl]
  | false :: bs, io, i + 1 => fpl_nd bs io i
  | [], _, _ => by simp [fpl]
  | true :: _, [], _ => by simp [fpl]
theorem fpl_inj : ∀ (bs : List Bool) (io : List Addr) (i j : Nat) (a : Addr), io.Nodup → a ∈ fpl bs io i → a ∈ fpl bs io j → i = j
  | true :: _, b :: _, 0, 0, a, _, _, _ => rfl
  | true :: bs, b :: io, 0, j + 1, a, n, h, h' => by
    have e : a = b := by simpa [fpl] using h
    subst e
    exact absurd (fpl_mem bs io j a h') (List.nodup_cons.mp n).1
  | true :: bs, b :: io, i + 1, 0, a, n, h', h => by
    have e : a = b := by simpa [fpl] using h
    subst e
    exact absurd (fpl_mem bs io i a h') (List.nodup_cons.mp n).1
  | true :: bs, b :: io, i + 1, j + 1, a, n, h, h' => by rw [fpl_inj bs io i j a (List.nodup_cons.mp n).2 h h']
  | false :: _, _, 0, _, a, _, h, _ => by simp [fpl] at h
  | false :: _, _, _ + 1, 0, a, _, _, h => by simp [fpl] at h
  | false :: bs, io, i + 1, j + 1, a, n, h, h' => by rw [fpl_inj bs io i j a n h h']
  | [], _, _, _, a, _, h, _ => by simp [fpl] at h
  | true :: _, [], _, _, a, _, h, _ => by simp [fpl] at h
theorem fpl_off : ∀ (bs : List Bool) (io : List Addr) (i : Nat), bs.length ≤ i → fpl bs io i = []
  | true :: _, b :: _, 0, h => by simp at h
  | true :: bs, b :: io, i + 1, h => fpl_off bs io i (by simpa using h)
  | false :: _, _, 0, h => by simp at h
  | false :: bs, io, i + 1, h => fpl_off bs io i (by simpa using h)
  | [], _, _, _ => rfl
  | true :: _, [], _, _ => rfl
theorem rho0_len : ∀ {bs : List Bool} {j : Nat} {ds : List D}, ds.length = bs.length → (rho0 bs j ds).length = bs.length
  | [], _, [], _ => rfl
  | true :: bs, j, d :: ds, h => congrArg (· + 1) (rho0_len (bs := bs) (j := j + 1) (ds := ds) (by simpa using h))
  | false :: bs, j, d :: ds, h => congrArg (· + 1) (rho0_len (bs := bs) (j := j) (ds := ds) (by simpa using h))
  | true :: bs, j, [], h => by simp at h
  | false :: bs, j, [], h => by simp at h
theorem start_slots : ∀ {bs : List Bool} {ds : List D} {vs : List V} {io pre : List Addr}, ArgsOk K F H bs ds vs io → S.io = pre ++ io → ∀ i s, (rho0 bs pre.length ds)[i]? = some s → SlOk K S F H s ((vs.map some)[i]?).join (fpl bs io i)
  | [], _, _, _, pre, h, _, i, s, e => by simp [rho0] at e
  | false :: bs, _, _, io, pre, ⟨d, v, r, r', e1, e2, rp, t⟩, hs, i, s, e => by
    subst e1; subst e2
    cases i with
    | zero =>
      have e' : some (Sl.fz d) = some s := e
      cases e'
      exact ⟨rfl, v, rfl, rp⟩
    | succ i => exact start_slots t hs i s e
  | true :: bs, _, _, _, pre, ⟨d, a, r, r', io', e1, e2, e3, o, t⟩, hs, i, s, e => by
    subst e1; subst e2; subst e3
    cases i with
    | zero =>
      have e' : some (Sl.io pre.length d) = some s := e
      cases e'
      refine ⟨a, rfl, ?_, rfl, o⟩
      rw [hs, List.getElem?_append_right (Nat.le_refl _), Nat.sub_self]
      rfl
    | succ i =>
      have q := start_slots (pre := pre ++ [a]) t (by rw [hs, List.append_assoc]; rfl) i s (by rw [List.length_append]; exact e)
      exact q
theorem sr_start {bs : List Bool} {ds : List D} {vs : List V} {io : List Addr} {n : Nat} (s : Same F H) (h : ArgsOk K F H bs ds vs io) (nd : io.Nodup) (fr : ∀ a ∈ io, F a = none) (N : List Str) (hn : n = N.length - bs.length) (hl : bs.length ≤ N.length) :
    SR K ⟨H, F, io⟩ F H (L2.start N vs) (rho0 bs 0 ds ++ List.replicate n .no) [] := by
  obtain ⟨l1, l2⟩ := h.len
  have l3 : (rho0 bs 0 ds).length = bs.length := rho0_len l2
  refine ⟨fpl bs io, s, Same.refl F, fun a ha => .inl ha, fun a o e _ => e, fun a e => e, ?_, fun i sl e => ?_, fun i e => ?_, fpl_nd bs io, fun i j a => fpl_inj bs io i j a nd, fun i a ha => fr a (fpl_mem bs io i a ha), .nil, fun _ _ _ z => by simp at z, fun _ z => by simp at z⟩
  · unfold L2.start
    simp [l3, l1, hn]
  · unfold L2.start
    by_cases hi : i < bs.length
    · rw [List.getElem?_append_left (by rw [l3]; exact hi)] at e
      rw [List.getElem?_append_left (by simp [l1, hi])]
      exact start_slots (S := ⟨H, F, io⟩) (pre := []) h rfl i sl e
    · rw [List.getElem?_append_right (by rw [l3]; omega)] at e
      rw [List.getElem?_replicate] at e
      split at e
      · cases e
        exact fpl_off bs io i (by omega)
      · cases e
  · by_cases hi : i < bs.length
    · rw [List.getElem?_append_left (by rw [l3]; exact hi), List.getElem?_eq_none_iff] at e
      omega
    · exact fpl_off bs io i (by omega)
theorem outs_get : ∀ {bs : List Bool} {j0 : Nat} {ρ : Ev} {outs : List D}, outsOf bs j0 ρ = some outs → outs.length = (bs.filter id).length ∧ ∀ j d, outs[j]? = some d → ∃ i : Nat, ρ[i]? = some (.io (j0 + j) d)
  | [], _, _, _, e => by cases e; exact ⟨rfl, fun j d e => by simp at e⟩
  | true :: bs, j0, .io j' d0 :: ρ, outs, e => by
    unfold outsOf at e
    split at e
    · rename_i hj
      cases q : outsOf bs (j0 + 1) ρ with
      | none => rw [q] at e; cases e
      | some os =>
        rw [q] at e
        cases e
        obtain ⟨l, g⟩ := outs_get q
        refine ⟨by show os.length + 1 = _; rw [l]; rfl, fun j d e => ?_⟩
        cases j with
        | zero =>
          cases e
          exact ⟨0, by rw [hj]; rfl⟩
        | succ j =>
          obtain ⟨i, z⟩ := g j d e
          exact ⟨i + 1, by rw [Nat.add_right_comm] at z; exact z⟩
    · cases e
  | false :: bs, j0, s :: ρ, outs, e => by
    obtain ⟨l, g⟩ := outs_get (bs := bs) (j0 := j0) (ρ := ρ) e
    refine ⟨l, fun j d e => ?_⟩
    obtain ⟨i, z⟩ := g j d e
    exact ⟨i + 1, z⟩
  | true :: bs, j0, [], _, e => by cases e
  | false :: bs, j0, [], _, e => by cases e
  | true :: bs, j0, .no :: ρ, _, e => by cases e
  | true :: bs, j0, .fz _ :: ρ, _, e => by cases e
  | true :: bs, j0, .ow _ _ :: ρ, _, e => by cases e
theorem ArgsOk.ioLen : ∀ {bs : List Bool} {ds : List D} {vs : List V} {io : List Addr}, ArgsOk K F H bs ds vs io → io.length = (bs.filter id).length
  | [], _, _, _, ⟨_, _, e⟩ => by subst e; rfl
  | false :: bs, _, _, io, ⟨d, v, r, r', e1, e2, _, t⟩ => by
    show io.length = (bs.filter id).length
    exact ArgsOk.ioLen t
  | true :: bs, _, _, _, ⟨d, b, r, r', io', e1, e2, e3, o, t⟩ => by
    subst e3
    show io'.length + 1 = _
    rw [ArgsOk.ioLen t]
    rfl
end

section
variable {P : Program} {w : World} {K : Fg} {mg : Str → Option Value} {base : Heap}
end

/-! ### calls -/
inductive Ag where
  | v (d : D) | s (i : Nat)
def AgV (K : Fg) (F : Hp) (σ : L2.St) : Ag → V → Prop
  | .v d, v => Rep K F d v
  | .s i, v => σ[i]? = some (some v)
def AgVs (K : Fg) (F : Hp) (σ : L2.St) : List Ag → List V → Prop
  | [], vs => vs = []
  | o :: os, vs => ∃ v r, vs = v :: r ∧ AgV K F σ o v ∧ AgVs K F σ os r
abbrev RAg := Ev → (List Ag → Ev → Prop) → Prop
def GPost (K : Fg) (S : Frm) (F : Hp) (σ : L2.St) (tmp : List (Addr × HO)) (Q : List Ag → Ev → Prop) : List V → Hp → Prop := fun vs H' => ∃ F' ρ' os, Same F F' ∧ SR K S F' H' σ ρ' tmp ∧ AgVs K F' σ os vs ∧ Q os ρ'
def tVG (K : Fg) (r : RAg) : TA := fun σ H Q' => ∃ S F ρ tmp Q, SR K S F H σ ρ tmp ∧ r ρ Q ∧ ∀ vs H', GPost K S F σ tmp Q vs H' → Q' vs H'
def VAg (X : Cx) (es : List Expr) (r : RAg) : Prop := PA X es (tVG X.K r)
def rgA0 : RAg := fun ρ Q => Q [] ρ
def rgAv (ra : RE) (r : RAg) : RAg := fun ρ Q => ra ρ fun d _ ρ1 => r ρ1 fun os ρ2 => Q (.v d :: os) ρ2
def ownM (ρ : Ev) (i : Nat) : Option D := match owned ρ i with
  | some (.lst ds) => some (.lst ds)
  | some (.dct ks ds) => some (.dct ks ds)
  | _ => none
def rgAs (i : Nat) (r : RAg) : RAg := fun ρ Q => (ownM ρ i).isSome = true ∧ r ρ fun os ρ2 => Q (.s i :: os) ρ2
def agS : List Ag → List Nat
  | [] => []
  | .v _ :: r => agS r
  | .s i :: r => i :: agS r
def agDs (ρ : Ev) : List Bool → List Ag → Option (List D)
  | [], [] => some []
  | false :: bs, .v d :: r => (agDs ρ bs r).map (d :: ·)
  | true :: bs, .s i :: r => match ownM ρ i, agDs ρ bs r with
    | some d, some ds => some (d :: ds)
    | _, _ => none
  | _, _ => none
def putAg : Ev → List Ag → List D → Option Ev
  | ρ, .s i :: r, o :: os => putAg (putO ρ i o) r os
  | ρ, .v _ :: r, os => putAg ρ r os
  | ρ, [], [] => some ρ
  | _, _, _ => none
def ndB : List Nat → Bool
  | [] => true
  | i :: r => !r.contains i && ndB r
theorem ndB.nd : ∀ {l : List Nat}, ndB l = true → l.Nodup
  | [], _ => .nil
  | i :: r, h => by
    have h' := Bool.and_eq_true_iff.mp h
    refine List.nodup_cons.mpr ⟨fun z => ?_, ndB.nd h'.2⟩
    have := h'.1
    rw [Bool.not_eq_true', List.contains_eq_mem, decide_eq_false_iff_not] at this
    exact this z
def rCall (ios : List Bool) (sp : ASp) (rg : RAg) : RE := fun ρ Q => rg ρ fun ags ρ1 => ndB (agS ags) = true ∧ ∃ ds, agDs ρ1 ios ags = some ds ∧ sp ds fun d k outs => ∃ ρ2, putAg ρ1 ags outs = some ρ2 ∧ Q d k ρ2

section
variable {X : Cx} {e : Expr} {es : List Expr} {pos p : Pos} {K : Fg} {S : Frm} {F F' F1 H H' : Hp} {σ : L2.St} {ρ ρ' ρ1 ρ2 : Ev} {tmp : List (Addr × HO)} {fps : Nat → List Addr}
theorem tVG.mk {r : RAg} {Q : List Ag → Ev → Prop} {Q' : List V → Hp → Prop} (h : SR K S F H σ ρ tmp) (hr : r ρ Q) (w : ∀ v H', GPost K S F σ tmp Q v H' → Q' v H') : tVG K r σ H Q' := ⟨S, F, ρ, tmp, Q, h, hr, w⟩
theorem AgVs.mono {os : List Ag} {vs : List V} (s : Same F F') (h : AgVs K F σ os vs) : AgVs K F' σ os vs := by
  induction os generalizing vs with
  | nil => exact h
  | cons o os ih =>
    obtain ⟨v, r, e, h, t⟩ := h
    refine ⟨v, r, e, ?_, ih t⟩
    cases o with
    | v d => exact Rep.mono s d v h
    | s i => exact h
theorem vg0 : VAg X [] rgA0 := by
  refine PA.weak pa_nil ?_
  rintro σ H Q' ⟨S, F, ρ, tmp, Q, h, hr, w⟩
  exact w _ _ ⟨F, ρ, [], Same.refl F, h, rfl, hr⟩
theorem vgv {ra : RE} {r : RAg} (ha : VE X e ra) (hr : VAg X es r) (hs : starEach (e :: es) X.env = (false, eval e X.env) :: starEach es X.env := by rfl) : VAg X (e :: es) (rgAv ra r) := by
  refine PA.weak (pa_cons ha hr hs) ?_
  rintro σ H Q' ⟨S, F, ρ, tmp, Q, h, hr, w⟩
  refine tV.mk h hr fun v H1 q => ?_
  obtain ⟨F1, ρ1, d, k, s1, h1, v1, q1⟩ := q.fz
  refine tVG.mk h1 q1 fun vs H2 ⟨F2, ρ2, os, s2, h2, v2, q2⟩ => ?_
  exact w _ _ ⟨F2, ρ2, .v d :: os, s1.trans s2, h2, ⟨v, vs, rfl, Rep.mono s2 d v v1, v2⟩, q2⟩
theorem own_ref {d : D} {i : Nat} (h : SRf K S F H σ ρ fps tmp) (e : ownM ρ i = some d) : ∃ a, σ[i]? = some (some (.ref a)) ∧ fps i = [a] ∧ OwnR K F H 1 d (.ref a) [a] ∧ owned ρ i = some d := by
  unfold ownM at e
  split at e
  · rename_i ds q
    cases e
    obtain ⟨p, vs, e1, e2, e3, r⟩ := h.ownL q
    exact ⟨p, e1, e2, OwnR.lst1 e3 r, q⟩
  · rename_i ks ds q
    cases e
    obtain ⟨p, ⟨e1, e2, r⟩ | ⟨e1, v, e2, r⟩⟩ := h.own1 q
    · exact ⟨p, e1, e2, r, q⟩
    · exfalso
      unfold owned at q
      split at q
      · rename_i d' z
        cases q
        obtain ⟨_, v', e4, p', vs', e5, h5, e6, t'⟩ := h.slot i _ z
        rw [e1] at e6
        cases e6
      · rename_i j d' z
        cases q
        obtain ⟨a, _, _, e6, _⟩ := h.slot i _ z
        rw [e1] at e6
        cases e6
      · cases q
  · cases e
theorem vgs {i : Nat} {r : RAg} (ha : PE X e (tVar i)) (hr : VAg X es r) (hs : starEach (e :: es) X.env = (false, eval e X.env) :: starEach es X.env := by rfl) : VAg X (e :: es) (rgAs i r) := by
  refine PA.weak (pa_cons ha hr hs) ?_
  rintro σ H Q' ⟨S, F, ρ, tmp, Q, ⟨fps, h⟩, ⟨hi, hr⟩, w⟩
  obtain ⟨d, hd⟩ := Option.isSome_iff_exists.mp hi
  obtain ⟨a, e1, _⟩ := own_ref h hd
  refine ⟨_, e1, ?_⟩
  refine tVG.mk ⟨fps, h⟩ hr fun vs H2 ⟨F2, ρ2, os, s2, h2, v2, q2⟩ => ?_
  exact w _ _ ⟨F2, ρ2, .s i :: os, s2, h2, ⟨_, vs, rfl, e1, v2⟩, q2⟩
/-- the arguments as the callee finds them -/
theorem args_of (h : SRf K S F H σ ρ fps tmp) : ∀ {bs : List Bool} {ags : List Ag} {vs : List V} {ds : List D}, AgVs K F σ ags vs → agDs ρ bs ags = some ds → ∃ io, ArgsOk K F H bs ds vs io ∧ (∀ a ∈ io, ∃ i ∈ agS ags, fps i = [a]) ∧ io.length = (agS ags).length ∧ ∀ (j : Nat) (i : Nat), (agS ags)[j]? = some i → ∃ a d, io[j]? = some a ∧ σ[i]? = some (some (.ref a)) ∧ fps i = [a] ∧ owned ρ i = some d
  | [], [], vs, ds, hv, e => by cases e; exact ⟨[], ⟨rfl, hv, rfl⟩, fun _ z => by simp at z, rfl, fun j i e => by simp [agS] at e⟩
  | false :: bs, .v d :: r, vs, ds, ⟨v, r', e1, h1, t⟩, e => by
    unfold agDs at e
    cases q : agDs ρ bs r with
    | none => rw [q] at e; cases e
    | some ds' =>
      rw [q] at e
      cases e
      obtain ⟨io, a1, a2, a3, a4⟩ := args_of h t q
      exact ⟨io, ⟨d, v, ds', r', rfl, e1, h1, a1⟩, a2, a3, a4⟩
  | true :: bs, .s i :: r, vs, ds, ⟨v, r', e1, h1, t⟩, e => by
    unfold agDs at e
    split at e
    · rename_i d ds' q1 q2
      cases e
      obtain ⟨io, a1, a2, a3, a4⟩ := args_of h t q2
      obtain ⟨a, b1, b2, b3, b4⟩ := own_ref h q1
      have e2 : v = .ref a := by
        have : σ[i]? = some (some v) := h1
        rw [b1] at this
        cases this
        rfl
      subst e2
      refine ⟨a :: io, ⟨d, a, ds', r', io, rfl, e1, rfl, b3, a1⟩, fun b hb => ?_, congrArg (· + 1) a3, fun j m ej => ?_⟩
      · rcases List.mem_cons.mp hb with z | z
        · subst z; exact ⟨i, by simp [agS], b2⟩
        · obtain ⟨m, hm, e⟩ := a2 b z
          exact ⟨m, by simp [agS, hm], e⟩
      · cases j with
        | zero =>
          have ej' : some i = some m := ej
          cases ej'
          exact ⟨a, d, rfl, b1, b2, b4⟩
        | succ j => exact a4 j m ej
    · cases e
  | [], _ :: _, _, _, _, e => by cases e
  | false :: _, [], _, _, _, e => by cases e
  | true :: _, [], _, _, _, e => by cases e
  | false :: _, .s _ :: _, _, _, _, e => by cases e
  | true :: _, .v _ :: _, _, _, _, e => by cases e
def upS (d : D) : Sl → Sl
  | .ow k _ => .ow k d
  | .io j _ => .io j d
  | s => s
theorem putO_len {i : Nat} {d : D} : (putO ρ i d).length = ρ.length := by
  unfold putO
  split <;> simp
theorem putO_at {i : Nat} {d : D} : (putO ρ i d)[i]? = (ρ[i]?).map (upS d) := by
  unfold putO
  cases q : ρ[i]? with
  | none => simp [q]
  | some s =>
    have hl : i < ρ.length := (List.getElem?_eq_some_iff.mp q).1
    cases s with
    | no => simp [q, upS]
    | fz _ => simp [q, upS]
    | ow k _ => simp [hl, upS]
    | io j _ => simp [hl, upS]
theorem putO_ne {i m : Nat} {d : D} (h : m ≠ i) : (putO ρ i d)[m]? = ρ[m]? := by
  unfold putO
  split
  · rw [List.getElem?_set_ne (Ne.symm h)]
  · rw [List.getElem?_set_ne (Ne.symm h)]
  · rfl
theorem putAg_get : ∀ {ags : List Ag} {ρ ρ2 : Ev} {outs : List D}, putAg ρ ags outs = some ρ2 → (agS ags).Nodup → ρ2.length = ρ.length ∧ ∀ i s, ρ2[i]? = some s → (i ∉ agS ags ∧ ρ[i]? = some s) ∨ ∃ (j : Nat) (d : D), (agS ags)[j]? = some i ∧ outs[j]? = some d ∧ (ρ[i]?).map (upS d) = some s
  | [], ρ, ρ2, [], e, _ => by cases e; exact ⟨rfl, fun i s e => .inl ⟨by simp [agS], e⟩⟩
  | [], ρ, ρ2, _ :: _, e, _ => by cases e
  | .v _ :: r, ρ, ρ2, outs, e, n => by
    have e' : putAg ρ r outs = some ρ2 := by
      cases outs <;> exact e
    exact putAg_get (ags := r) e' n
  | .s i0 :: r, ρ, ρ2, o :: os, e, n => by
    obtain ⟨l, g⟩ := putAg_get (ags := r) (ρ := putO ρ i0 o) e (List.nodup_cons.mp n).2
    refine ⟨l.trans putO_len, fun i s e1 => ?_⟩
    by_cases q : i = i0
    · subst q
      rcases g i s e1 with ⟨_, z⟩ | ⟨j, d, z, _⟩
      · rw [putO_at] at z
        exact .inr ⟨0, o, rfl, rfl, z⟩
      · exact absurd (List.mem_of_getElem? z) (List.nodup_cons.mp n).1
    · rcases g i s e1 with ⟨z1, z⟩ | ⟨j, d, z, z2, z3⟩
      · rw [putO_ne q] at z
        exact .inl ⟨fun w => by
          rcases List.mem_cons.mp w with w | w
          · exact q w
          · exact z1 w, z⟩
      · rw [putO_ne q] at z3
        exact .inr ⟨j + 1, d, z, z2, z3⟩
  | .s _ :: _, _, _, [], e, _ => by cases e
/-- behind a call -/
theorem SRf.called {ags : List Ag} {outs : List D} {io : List Addr} {fp : List Addr} (h : SRf K S F H σ ρ fps tmp) (nd : (agS ags).Nodup) (hio : ∀ a ∈ io, ∃ i ∈ agS ags, fps i = [a])
    (hat : ∀ (j : Nat) (i : Nat), (agS ags)[j]? = some i → ∃ a d, io[j]? = some a ∧ σ[i]? = some (some (.ref a)) ∧ fps i = [a] ∧ owned ρ i = some d)
    (s1 : Same F F') (s2 : Same F' H') (fn : ∀ a, F' a ≠ none → F a ≠ none ∨ H a = none) (kp : ∀ a o, H a = some o → a ∉ io → H' a = some o) (lv : ∀ a, H a ≠ none → H' a ≠ none) (nf : fp.Nodup) (hfp : ∀ a ∈ fp, F' a = none ∧ H a = none ∧ H' a ≠ none)
    (ho : Outs K F' H' io outs) (hp : putAg ρ ags outs = some ρ2) : ∃ tm, tm.map (·.1) = fp ∧ SRf K S F' H' σ ρ2 fps (tm ++ tmp) := by
  obtain ⟨l, g⟩ := putAg_get hp nd
  have h1 : SRf K S F' H' σ ρ2 fps tmp := by
    refine h.change io s1 s2 fn kp lv (fun a ha => ?_) l fun i s e => ?_
    · obtain ⟨i, _, e⟩ := hio a ha
      exact ⟨i, by rw [e]; simp⟩
    · rcases g i s e with ⟨z1, z2⟩ | ⟨j, d, z1, z2, z3⟩
      · refine .inl ⟨z2, fun a ha ha2 => ?_⟩
        obtain ⟨m, hm, em⟩ := hio a ha2
        have : i = m := h.dis i m a ha (by rw [em]; simp)
        subst this
        exact z1 hm
      · refine .inr ?_
        obtain ⟨a, d0, b1, b2, b3, b4⟩ := hat j i z1
        obtain ⟨d', c1, c2⟩ := ho.2 j a b1
        rw [z2] at c1
        cases c1
        rw [b2, b3]
        cases q : ρ[i]? with
        | none => rw [q] at z3; cases z3
        | some s0 =>
          rw [q] at z3
          cases z3
          have sl := h.slot i _ q
          rw [b2, b3] at sl
          unfold owned at b4
          rw [q] at b4
          cases s0 with
          | no => cases b4
          | fz _ => cases b4
          | ow k d1 =>
            have hk : k = 1 := by
              by_cases hk : k = 1
              · exact hk
              · split at b4
                · rename_i heq; cases heq; exact rfl
                · rename_i heq; cases heq
                · cases b4
            subst hk
            exact ⟨sl.1, _, rfl, c2⟩
          | io j' d1 =>
            obtain ⟨a', e1, e2, e3, _⟩ := sl
            cases e1
            exact ⟨a, rfl, e2, rfl, c2⟩
  obtain ⟨tm, et, qt⟩ := objs_at fp fun a ha => (hfp a ha).2.2
  refine ⟨tm, et, { h1 with ndT := ?_, disT := fun i a ha z => ?_, freeT := fun t ht => ?_ }⟩
  · rw [List.map_append, et]
    refine List.nodup_append.mpr ⟨nf, h.ndT, fun a ha b hb z => ?_⟩
    subst z
    obtain ⟨t, ht, e⟩ := List.mem_map.mp hb
    have := (h.freeT t ht).2.2
    rw [e, (hfp a ha).2.1] at this
    cases this
  · rw [List.map_append, et] at z
    rcases List.mem_append.mp z with y | y
    · exact h.alive i a ha (hfp a y).2.1
    · exact h.disT i a ha y
  · rcases List.mem_append.mp ht with y | y
    · have y2 : t.1 ∈ fp := by rw [← et]; exact List.mem_map_of_mem y
      exact ⟨(hfp _ y2).1, h.live _ (hfp _ y2).2.1, qt t y⟩
    · exact h1.freeT t y
theorem tCall.of {ios : List Bool} {sp : ASp} {rg : RAg} (σ : L2.St) (H : Hp) (Q' : VK) (h : tV K (rCall ios sp rg) σ H Q') : tCall (liftSp K ios sp) [] E0 (tVG K rg) σ H Q' := by
  obtain ⟨S, F, ρ, tmp, Q, h, hr, w⟩ := h
  refine tVG.mk h hr fun vs H1 ⟨F1, ρ1, ags, s1, ⟨fps, h1⟩, v1, nd, ds, e1, q1⟩ => ?_
  obtain ⟨io, a1, a2, a3, a4⟩ := args_of h1 v1 e1
  have nd' := ndB.nd nd
  have ndI : io.Nodup := by
    refine List.pairwise_iff_getElem.mpr fun i j hi0 hj0 hij z => ?_
    have hi : i < (agS ags).length := by omega
    have hj2 : j < (agS ags).length := by omega
    obtain ⟨x, _, x1, _, x2, _⟩ := a4 i _ (List.getElem?_eq_getElem hi)
    obtain ⟨y, _, y1, _, y2, _⟩ := a4 j _ (List.getElem?_eq_getElem hj2)
    rw [List.getElem?_eq_getElem hi0] at x1
    rw [List.getElem?_eq_getElem hj0] at y1
    cases x1
    cases y1
    rw [← z] at y2
    have e : (agS ags)[i] = (agS ags)[j] := h1.dis _ _ io[i] (by rw [x2]; simp) (by rw [y2]; simp)
    exact absurd ((List.getElem_inj nd').mp e) (by omega)
  show liftSp K ios sp (vs ++ []) H1 Q' E0
  rw [List.append_nil]
  refine ⟨F1, ds, io, _, h1.sub, a1, ndI, fun a ha => ?_, q1, fun v H2 ⟨F2, d, k, fp, outs, b1, b2, b3, b4, b5, b6, b7, b8, b9, ρ2, b10, q2⟩ => ?_⟩
  · obtain ⟨i, _, e⟩ := a2 a ha
    exact h1.free i a (by rw [e]; simp)
  · obtain ⟨tm, et, h2⟩ := h1.called nd' a2 a4 b1 b2 b3 b4 b5 b7 b8 b9 b10
    exact w _ _ ⟨F2, ρ2, d, k, tm, s1.trans b1, ⟨fps, h2⟩, by rw [et]; exact b6, q2⟩
end
end VL

namespace VL
open PySem PySem.Spec PyProof.Rows L2

section
variable {X : Cx} {st : Stmt} {sts rest : List Stmt} {e a b c : Expr} {es : List Expr} {pos p apos cpos : Pos} {K : Fg} {S : Frm} {F F' F1 H H' : Hp} {σ σ' σ2 : L2.St} {ρ ρ' ρ1 ρ3 : Ev} {tmp : List (Addr × HO)} {fps : Nat → List Addr} {i : Nat}

/-! ### an owned list is changed -/
def lstAt (ρ : Ev) (i : Nat) : Option (List D) := match owned ρ i with
  | some (.lst ds) => some ds
  | _ => none
theorem lstAt_of {ds : List D} (h : lstAt ρ i = some ds) : owned ρ i = some (.lst ds) := by
  unfold lstAt at h
  split at h
  · rename_i z q; cases h; exact q
  · cases h
theorem SRf.setL {ds es : List D} {p : Addr} {us : List V} (h : SRf K S F H σ ρ fps tmp) (e : lstAt ρ i = some ds) (hs : σ[i]? = some (some (.ref p))) (hf : fps i = [p]) (r : Reps K F es us) : SRf K S F (upd H p (.lst us)) σ (putO ρ i (.lst es)) fps tmp :=
  h.write (lstAt_of e) hs hf (OwnR.lst1 upd_same r)
/-- xs[k] = e -/
def rSetIx (i : Nat) (re ri : RE) : RS := fun ρ E => re ρ fun d _ ρ1 => (lstAt ρ1 i).isSome = true ∧ ri ρ1 fun di _ ρ2 => match di with
  | .int k => ∃ ds, lstAt ρ2 i = some ds ∧ ∃ j, ixN ds.length k = some j ∧ E.nx (putO ρ2 i (.lst (ds.set j d)))
  | _ => False
theorem SRf.lref {ds : List D} (h : SRf K S F H σ ρ fps tmp) (e : lstAt ρ i = some ds) : ∃ p vs, σ[i]? = some (some (.ref p)) ∧ fps i = [p] ∧ H p = some (.lst vs) ∧ Reps K F ds vs := h.ownL (lstAt_of e)
theorem vs_setIx {o ix : Expr} {re ri : RE} (he : VE X e re) (ho : PE X o (tVar i)) (hi : VE X ix ri)
    (ha : ∀ v, assign (.Subscript o ix p) X.env v = (do
      let ov ← holding [v] (eval o X.env)
      let iv ← holding [v, ov] (eval ix X.env)
      standAt p
      holding [v, ov, iv] (setItem ov iv v)
      release [v, ov, iv] []) := by intro _; rfl)
    (hs : swapsWithSole [.Subscript o ix p] e pos.line X.env = pure false := by rfl) (hw : swappedStores [.Subscript o ix p] e X.env = pure none := by rfl)
    (h1 : (assignEach [.Subscript o ix p] X.env).map (·.2) = [assign (.Subscript o ix p) X.env] := by rfl) : VS X (.Assign [.Subscript o ix p] e pos) (rSetIx i re ri) := by
  refine PS.weak (ps_asg he (pg_sub ho hi set_list ha) hs hw h1) ?_
  rintro D σ H ⟨S, F, ρ, E, h, hr, w⟩
  refine tV.mk h hr fun v H1 q => ?_
  obtain ⟨F1, ρ1, d, k, s1, ⟨fps1, h1⟩, r1, q0, q1⟩ := q.fz
  obtain ⟨ds0, e0⟩ := Option.isSome_iff_exists.mp q0
  obtain ⟨p0, vs0, e3, _⟩ := h1.lref e0
  refine ⟨_, e3, tV.mk ⟨fps1, h1⟩ q1 fun iv H2 q => ?_⟩
  obtain ⟨F2, ρ2, di, k2, s2, ⟨fps, h2⟩, r2, q2⟩ := q.fz
  cases di with
  | int z =>
    obtain ⟨ds, e1, j, e2, q2⟩ := q2
    obtain ⟨p, vs, e4, e5, e6, rr⟩ := h2.lref e1
    rw [e3] at e4
    cases e4
    cases r2
    exact ⟨_, vs, z, j, rfl, rfl, e6, by rw [rr.length]; exact e2, w.nx _ _ ⟨F2, _, s1.trans s2, ⟨fps, h2.setL e1 e3 e5 (Reps.set (Rep.mono s2 _ _ r1) j rr)⟩, q2⟩⟩
  | _ => exact q2.elim
/-- x.m(e, ..) of an owned list: m's own answer, the list behind it -/
abbrev GL := List D → List D → (D → List D → Prop) → Prop
def LkL (K : Fg) (r : V → List V → Hp → VK → Prop) (g : GL) : Prop := ∀ (F H : Hp) (p : Addr) (vs us : List V) (ds es : List D) (R : D → List D → Prop) (Q' : VK), Same F H → H p = some (.lst vs) → Reps K F ds vs → Shals K F H es us → g ds es R → (∀ d ds' v vs', Rep K F d v → Reps K F ds' vs' → R d ds' → Q' v (upd H p (.lst vs'))) → r (.ref p) us H Q'
def rMet (i : Nat) (g : GL) (ra : RA) : RE := fun ρ Q => (lstAt ρ i).isSome = true ∧ ra ρ fun os ρ1 => ∃ es, opDs ρ1 os = some es ∧ ∃ ds, lstAt ρ1 i = some ds ∧ g ds es fun d ds' => Q d 0 (putO ρ1 i (.lst ds'))
theorem met_done {Q : QE} {g : GL} {r : V → List V → Hp → VK → Prop} {os : List Op} {us : List V} {ds es : List D} {p0 : Addr} {Q' : VK} (lk : LkL K r g) (s1 : Same F F1) (h1 : SRf K S F1 H1 σ ρ1 fps tmp) (v1 : OpVs K F1 σ os us) (e1 : opDs ρ1 os = some es) (e2 : lstAt ρ1 i = some ds) (e0 : σ[i]? = some (some (.ref p0)))
    (g1 : g ds es fun d ds' => Q d 0 (putO ρ1 i (.lst ds'))) (w : ∀ v H', VPost K S F σ tmp Q v H' → Q' v H') : r (.ref p0) us H1 Q' := by
  obtain ⟨p, vs, e3, e4, e5, rr⟩ := h1.lref e2
  rw [e0] at e3
  cases e3
  refine lk F1 H1 _ vs us ds es _ _ h1.sub e5 rr (SR.ops ⟨fps, h1⟩ v1 e1) g1 fun d ds' v vs' rd rs q => w _ _ ?_
  exact VPost.of s1 ⟨fps, h1.setL e2 e0 e4 rs⟩ rd q
theorem ve_met {o : Expr} {m : Str} {id : String} {g : GL} {r : V → List V → Hp → VK → Prop} {ra : RA} (slot : Slot "list" m id) (hty : typeOf (.builtin id) = pure (.type "method_descriptor")) (hm : MtR X id r) (lk : LkL X.K r g) (ho : PE X o (tVar i)) (ha : VA X (e :: es) ra)
    (hbase : attributeBase o m X.env (eval o X.env) = eval o X.env := by rfl)
    (hfew : ((backTo cpos (starEach (e :: es) X.env)).all (fun x => !x.1) && (backToKw cpos (keywordEach [] X.env)).all (fun x => x.1.isSome)
      && decide ((e :: es).length + ([] : List Keyword).length + (if ([] : List Keyword).isEmpty then 0 else 1) < 30)) = true := by rfl)
    (hline : (apos.endLine == cpos.line) = true := by rfl) (hs : starEach (e :: es) X.env = (false, eval e X.env) :: starEach es X.env := by rfl) (hplain : (backTo cpos (starEach es X.env)).any (·.1) = false := by rfl) :
    VE X (.Call (.Attribute o m apos) (e :: es) [] cpos) (rMet i g ra) := by
  refine PE.weak (pe_bm PySem.F.plainAttrs_list slot hty hm ho ha hbase hfew hline hs hplain) ?_
  rintro σ H Q' ⟨S, F, ρ, tmp, Q, ⟨fps, h⟩, ⟨q0, hr⟩, w⟩
  obtain ⟨ds0, e0⟩ := Option.isSome_iff_exists.mp q0
  obtain ⟨p0, vs0, e3, _, e5, _⟩ := h.lref e0
  refine ⟨_, e3, .inl ⟨rfl, _, SqL.of e5⟩, tVA.mk ⟨fps, h⟩ hr fun us H1 ⟨F1, ρ1, os, s1, ⟨fps1, h1⟩, v1, es, e1, ds, e2, g1⟩ => ?_⟩
  exact met_done lk s1 h1 v1 e1 e2 e3 g1 w
theorem ve_met0 {o : Expr} {m : Str} {id : String} {g : GL} {r : V → List V → Hp → VK → Prop} (slot : Slot "list" m id) (hty : typeOf (.builtin id) = pure (.type "method_descriptor")) (hm : MtR X id r) (lk : LkL X.K r g) (ho : PE X o (tVar i))
    (hbase : attributeBase o m X.env (eval o X.env) = eval o X.env := by rfl) (hline : (apos.endLine == cpos.line) = true := by rfl) : VE X (.Call (.Attribute o m apos) [] [] cpos) (rMet i g raNil) := by
  refine PE.weak (pe_bm0 PySem.F.plainAttrs_list slot hty hm ho hbase hline) ?_
  rintro σ H Q' ⟨S, F, ρ, tmp, Q, ⟨fps, h⟩, ⟨q0, es, e1, ds, e2, g1⟩, w⟩
  obtain ⟨p0, vs0, e3, _, e5, _⟩ := h.lref e2
  refine ⟨_, e3, .inl ⟨rfl, _, SqL.of e5⟩, ?_⟩
  exact met_done lk (Same.refl F) h (show OpVs X.K F σ [] [] from rfl) e1 e2 e3 g1 w
def gApp : GL := fun ds es R => match es with | [e] => ds.length < sizeLine ∧ R .non (ds ++ [e]) | _ => False
def gPopAt : GL := fun ds es R => match es with | [.int i] => (-(2 ^ 63) ≤ i ∧ i < 2 ^ 63) ∧ ∃ k, seqIndex? i ds.length = some k ∧ ∃ d, ds[k]? = some d ∧ R d (ds.eraseIdx k) | _ => False
def gClear : GL := fun ds es R => match es with | [] => R .non [] | _ => False
/-- a thing as it is given, frozen: what an append takes -/
def rMetF (i : Nat) (g : GL) (ra : RF) : RE := fun ρ Q => (lstAt ρ i).isSome = true ∧ ra ρ fun es ρ1 => ∃ ds, lstAt ρ1 i = some ds ∧ g ds es fun d ds' => Q d 0 (putO ρ1 i (.lst ds'))
def LkF (K : Fg) (r : V → List V → Hp → VK → Prop) (g : GL) : Prop := ∀ (F H : Hp) (p : Addr) (vs us : List V) (ds es : List D) (R : D → List D → Prop) (Q' : VK), Same F H → H p = some (.lst vs) → Reps K F ds vs → Reps K F es us → g ds es R → (∀ d ds' v vs', Rep K F d v → Reps K F ds' vs' → R d ds' → Q' v (upd H p (.lst vs'))) → r (.ref p) us H Q'
theorem ve_metF {o : Expr} {m : Str} {id : String} {g : GL} {r : V → List V → Hp → VK → Prop} {ra : RF} (slot : Slot "list" m id) (hty : typeOf (.builtin id) = pure (.type "method_descriptor")) (hm : MtR X id r) (lk : LkF X.K r g) (ho : PE X o (tVar i)) (ha : VF X (e :: es) ra)
    (hbase : attributeBase o m X.env (eval o X.env) = eval o X.env := by rfl)
    (hfew : ((backTo cpos (starEach (e :: es) X.env)).all (fun x => !x.1) && (backToKw cpos (keywordEach [] X.env)).all (fun x => x.1.isSome)
      && decide ((e :: es).length + ([] : List Keyword).length + (if ([] : List Keyword).isEmpty then 0 else 1) < 30)) = true := by rfl)
    (hline : (apos.endLine == cpos.line) = true := by rfl) (hs : starEach (e :: es) X.env = (false, eval e X.env) :: starEach es X.env := by rfl) (hplain : (backTo cpos (starEach es X.env)).any (·.1) = false := by rfl) :
    VE X (.Call (.Attribute o m apos) (e :: es) [] cpos) (rMetF i g ra) := by
  refine PE.weak (pe_bm PySem.F.plainAttrs_list slot hty hm ho ha hbase hfew hline hs hplain) ?_
  rintro σ H Q' ⟨S, F, ρ, tmp, Q, ⟨fps, h⟩, ⟨q0, hr⟩, w⟩
  obtain ⟨ds0, e0⟩ := Option.isSome_iff_exists.mp q0
  obtain ⟨p0, vs0, e3, _, e5, _⟩ := h.lref e0
  refine ⟨_, e3, .inl ⟨rfl, _, SqL.of e5⟩, tVF.mk ⟨fps, h⟩ hr fun us H1 ⟨F1, ρ1, es, s1, ⟨fps1, h1⟩, v1, ds, e2, g1⟩ => ?_⟩
  obtain ⟨p, vs, e6, e7, e8, rr⟩ := h1.lref e2
  rw [e3] at e6
  cases e6
  exact lk F1 H1 _ vs us ds es _ _ h1.sub e8 rr v1 g1 fun d ds' v vs' rd rs q => w _ _ (VPost.of s1 ⟨fps1, h1.setL e2 e3 e7 rs⟩ rd q)
theorem rep_non {K : Fg} {F : Hp} : Rep K F .non .non := rfl
theorem lk_app : LkF K rAppend gApp := fun F H p vs us ds es R Q' s hp r ra g w => by
  cases es with
  | nil => exact g.elim
  | cons e es =>
    cases es with
    | cons _ _ => exact g.elim
    | nil =>
      obtain ⟨v, u, e1, rv, ru⟩ := ra
      cases ru
      exact ⟨p, vs, v, rfl, e1, hp, by rw [r.length]; exact g.1, w _ _ _ _ rep_non (r.append (Reps.one rv)) g.2⟩
theorem lk_clear : LkL K rClear gClear := fun F H p vs us ds es R Q' s hp r ra g w => by
  cases es with
  | cons _ _ => exact g.elim
  | nil => exact ⟨p, vs, rfl, ra, hp, w .non [] .non [] rep_non rfl g⟩
theorem lk_popAt : LkL K rPopAt gPopAt := fun F H p vs us ds es R Q' s hp r ra g w => by
  cases es with
  | nil => exact g.elim
  | cons e es =>
    cases es with
    | cons _ _ => cases e <;> exact g.elim
    | nil =>
      cases e with
      | int z =>
        obtain ⟨v, e1, rz⟩ := ra.one
        cases rz
        obtain ⟨b, k, ek, d, e, g⟩ := g
        obtain ⟨v, e2, rv⟩ := r.get e
        exact ⟨p, vs, z, k, v, rfl, e1, hp, b.1, b.2, by rw [r.length]; exact ek, e2, w _ _ _ _ rv (r.eraseIdx k) g⟩
      | _ => exact g.elim
theorem ve_append {o : Expr} {ra : RF} (ho : PE X o (tVar i)) (ha : VF X (e :: es) ra)
    (hbase : attributeBase o "append" X.env (eval o X.env) = eval o X.env := by rfl)
    (hfew : ((backTo cpos (starEach (e :: es) X.env)).all (fun x => !x.1) && (backToKw cpos (keywordEach [] X.env)).all (fun x => x.1.isSome)
      && decide ((e :: es).length + ([] : List Keyword).length + (if ([] : List Keyword).isEmpty then 0 else 1) < 30)) = true := by rfl)
    (hline : (apos.endLine == cpos.line) = true := by rfl) (hs : starEach (e :: es) X.env = (false, eval e X.env) :: starEach es X.env := by rfl) (hplain : (backTo cpos (starEach es X.env)).any (·.1) = false := by rfl) :
    VE X (.Call (.Attribute o "append" apos) (e :: es) [] cpos) (rMetF i gApp ra) := ve_metF PySem.F.slot_list_append PySem.F.type_list_append mt_append lk_app ho ha hbase hfew hline hs hplain
theorem ve_popAt {o : Expr} {ra : RA} (ho : PE X o (tVar i)) (ha : VA X (e :: es) ra)
    (hbase : attributeBase o "pop" X.env (eval o X.env) = eval o X.env := by rfl)
    (hfew : ((backTo cpos (starEach (e :: es) X.env)).all (fun x => !x.1) && (backToKw cpos (keywordEach [] X.env)).all (fun x => x.1.isSome)
      && decide ((e :: es).length + ([] : List Keyword).length + (if ([] : List Keyword).isEmpty then 0 else 1) < 30)) = true := by rfl)
    (hline : (apos.endLine == cpos.line) = true := by rfl) (hs : starEach (e :: es) X.env = (false, eval e X.env) :: starEach es X.env := by rfl) (hplain : (backTo cpos (starEach es X.env)).any (·.1) = false := by rfl) :
    VE X (.Call (.Attribute o "pop" apos) (e :: es) [] cpos) (rMet i gPopAt ra) := ve_met PySem.F.slot_list_pop PySem.F.type_list_pop mt_popAt lk_popAt ho ha hbase hfew hline hs hplain
theorem ve_clear {o : Expr} (ho : PE X o (tVar i)) (hbase : attributeBase o "clear" X.env (eval o X.env) = eval o X.env := by rfl) (hline : (apos.endLine == cpos.line) = true := by rfl) : VE X (.Call (.Attribute o "clear" apos) [] [] cpos) (rMet i gClear raNil) := ve_met0 PySem.F.slot_list_clear PySem.F.type_list_clear mt_clear lk_clear ho hbase hline

/-! ### comprehensions -/
def wipeE : List Nat → Ev → Ev
  | [], ρ => ρ
  | i :: r, ρ => (wipeE r ρ).set i .no
/-- the block's slots as they were -/
def restE : List Nat → Ev → Ev → Ev
  | [], _, ρ => ρ
  | i :: r, ρ0, ρ => (restE r ρ0 ρ).set i (match ρ0[i]? with | some (.fz d) => .fz d | _ => .no)
def wipeOk : List Nat → Ev → Bool
  | [], _ => true
  | i :: r, ρ => (match ρ[i]? with | some (.fz _) => true | some .no => true | _ => false) && wipeOk r ρ
def lcL (ivs : List Nat) (rg : RG) (rt : RT) (re : RE) : List D → Ev → List D → (List D → Ev → Prop) → Prop
  | [], ρ, acc, Q => Q acc ρ
  | d :: ds, ρ, acc, Q => rg d (wipeE ivs ρ) fun ρ1 => rt ρ1 fun c ρ2 => way c (re ρ2 fun y _ ρ3 => acc.length < sizeLine ∧ lcL ivs rg rt re ds ρ3 (acc ++ [y]) Q) (lcL ivs rg rt re ds ρ2 acc Q)
def rLc (ivs : List Nat) (ri : RI) (rg : RG) (rt : RT) (re : RE) : RE := fun ρ Q => ri ρ fun items ρ1 => wipeOk ivs ρ1 = true ∧ lcL ivs rg rt re items ρ1 [] fun ds ρ2 => Q (.lst ds) 1 (restE ivs ρ1 ρ2)
theorem wipeE_len : ∀ {vs : List Nat} {ρ : Ev}, (wipeE vs ρ).length = ρ.length
  | [], _ => rfl
  | i :: r, ρ => by unfold wipeE; rw [List.length_set, wipeE_len]
theorem restE_len : ∀ {vs : List Nat} {ρ0 ρ : Ev}, (restE vs ρ0 ρ).length = ρ.length
  | [], _, _ => rfl
  | i :: r, ρ0, ρ => by unfold restE; rw [List.length_set, restE_len]
theorem wipeE_in : ∀ {vs : List Nat} {ρ : Ev} {i : Nat}, i ∈ vs → i < ρ.length → (wipeE vs ρ)[i]? = some .no
  | v :: vs, ρ, i, h, hl => by
    unfold wipeE
    by_cases e : i = v
    · subst e; rw [List.getElem?_set_self (by rw [wipeE_len]; exact hl)]
    · rw [List.getElem?_set_ne (Ne.symm e)]
      exact wipeE_in ((List.mem_cons.mp h).resolve_left e) hl
theorem wipeE_out : ∀ {vs : List Nat} {ρ : Ev} {i : Nat}, i ∉ vs → (wipeE vs ρ)[i]? = ρ[i]?
  | [], _, _, _ => rfl
  | v :: vs, ρ, i, h => by
    unfold wipeE
    rw [List.getElem?_set_ne (fun e => h (by simp [e])), wipeE_out fun z => h (by simp [z])]
theorem restE_in : ∀ {vs : List Nat} {ρ0 ρ : Ev} {i : Nat}, i ∈ vs → i < ρ.length → (restE vs ρ0 ρ)[i]? = some (match ρ0[i]? with | some (.fz d) => .fz d | _ => .no)
  | v :: vs, ρ0, ρ, i, h, hl => by
    unfold restE
    by_cases e : i = v
    · subst e; rw [List.getElem?_set_self (by rw [restE_len]; exact hl)]
    · rw [List.getElem?_set_ne (Ne.symm e)]
      exact restE_in ((List.mem_cons.mp h).resolve_left e) hl
theorem restE_out : ∀ {vs : List Nat} {ρ0 ρ : Ev} {i : Nat}, i ∉ vs → (restE vs ρ0 ρ)[i]? = ρ[i]?
  | [], _, _, _, _ => rfl
  | v :: vs, ρ0, ρ, i, h => by
    unfold restE
    rw [List.getElem?_set_ne (fun e => h (by simp [e])), restE_out fun z => h (by simp [z])]
theorem wipeOk_at : ∀ {vs : List Nat} {ρ : Ev} {i : Nat}, wipeOk vs ρ = true → i ∈ vs → (∃ d, ρ[i]? = some (.fz d)) ∨ ρ[i]? = some .no
  | v :: vs, ρ, i, h, hi => by
    unfold wipeOk at h
    rw [Bool.and_eq_true] at h
    rcases List.mem_cons.mp hi with e | e
    · subst e
      have h1 := h.1
      split at h1
      · rename_i d q; exact .inl ⟨d, q⟩
      · rename_i q; exact .inr q
      · cases h1
    · exact wipeOk_at h.2 e
theorem restE_self {vs : List Nat} {ρ : Ev} (h : wipeOk vs ρ = true) : restE vs ρ ρ = ρ := by
  apply List.ext_getElem?
  intro m
  by_cases hm : m ∈ vs
  · rcases wipeOk_at h hm with ⟨d, e⟩ | e
    · rw [restE_in hm (List.getElem?_eq_some_iff.mp e).1, e]
    · rw [restE_in hm (List.getElem?_eq_some_iff.mp e).1, e]
  · rw [restE_out hm]
theorem wipe_in : ∀ {vs : List Nat} {σ : L2.St} {i : Nat}, i ∈ vs → i < σ.length → (wipe σ vs)[i]? = some none
  | v :: vs, σ, i, h, hl => by
    unfold wipe
    by_cases e : i = v
    · subst e; rw [List.getElem?_set_self (by rw [wipe_length]; exact hl)]
    · rw [List.getElem?_set_ne (Ne.symm e)]
      exact wipe_in ((List.mem_cons.mp h).resolve_left e) hl
theorem wipe_same {vs : List Nat} (l : σ2.length = σ.length) (h : ∀ m, m ∉ vs → σ2[m]? = (wipe σ vs)[m]?) : wipe σ2 vs = wipe σ vs := by
  apply List.ext_getElem?
  intro m
  by_cases hm : m ∈ vs
  · by_cases hl : m < σ.length
    · rw [wipe_in hm (by omega), wipe_in hm hl]
    · rw [List.getElem?_eq_none (by rw [wipe_length]; omega), List.getElem?_eq_none (by rw [wipe_length]; omega)]
  · rw [wipe_out hm, h m hm]
/-- into the block -/
theorem SRf.into {vs : List Nat} (h : SRf K S F H σ (restE vs ρ1 ρ) fps tmp) : SRf K S F H (wipe σ vs) (wipeE vs ρ) (fun m => if m ∈ vs then [] else fps m) tmp where
  sub := h.sub
  f0 := h.f0
  fnew := h.fnew
  keep := h.keep
  live := h.live
  len := by rw [wipeE_len, wipe_length, ← h.len, restE_len]
  slot := fun m s e => by
    by_cases hm : m ∈ vs
    · by_cases hl : m < ρ.length
      · rw [wipeE_in hm hl] at e
        cases e
        simp [hm, SlOk]
      · rw [List.getElem?_eq_none (by rw [wipeE_len]; omega)] at e
        cases e
    · rw [wipeE_out hm] at e
      rw [wipe_out hm]
      simp only [hm, if_false]
      exact h.slot m s (by rw [restE_out hm]; exact e)
  off := fun m e => by
    by_cases hm : m ∈ vs
    · simp [hm]
    · simp only [hm, if_false]
      rw [wipeE_out hm] at e
      exact h.off m (by rw [restE_out hm]; exact e)
  nd := fun m => by
    by_cases hm : m ∈ vs
    · simp [hm]
    · simp only [hm, if_false]; exact h.nd m
  dis := fun i j a ha hb => by
    by_cases hi : i ∈ vs
    · simp [hi] at ha
    · by_cases hj : j ∈ vs
      · simp [hj] at hb
      · simp only [hi, if_false] at ha
        simp only [hj, if_false] at hb
        exact h.dis i j a ha hb
  free := fun i a ha => by
    by_cases hi : i ∈ vs
    · simp [hi] at ha
    · simp only [hi, if_false] at ha
      exact h.free i a ha
  ndT := h.ndT
  disT := fun i a ha => by
    by_cases hi : i ∈ vs
    · simp [hi] at ha
    · simp only [hi, if_false] at ha
      exact h.disT i a ha
  freeT := h.freeT
/-- out of it -/
theorem SRf.outof {vs : List Nat} {ρr : Ev} {fps0 : Nat → List Addr} {F0 H0 : Hp} {tmp0 : List (Addr × HO)} (h0 : SRf K S F0 H0 σ (restE vs ρ1 ρr) fps0 tmp0) (s : Same F0 F) (hl : ρ.length = ρr.length) (k : ∀ m, m ∉ vs → σ2[m]? = σ[m]?) (h : SRf K S F H σ2 ρ fps tmp) : SRf K S F H σ (restE vs ρ1 ρ) (fun m => if m ∈ vs then [] else fps m) tmp where
  sub := h.sub
  f0 := h.f0
  fnew := h.fnew
  keep := h.keep
  live := h.live
  len := by rw [← h0.len, restE_len, restE_len, hl]
  slot := fun m sl e => by
    by_cases hm : m ∈ vs
    · simp only [hm, if_true]
      by_cases hlt : m < ρ.length
      · rw [restE_in hm hlt] at e
        have q := h0.slot m _ (restE_in (ρ0 := ρ1) hm (by omega))
        cases e
        split at q
        · exact ⟨rfl, let ⟨v, e1, r⟩ := q.2; ⟨v, e1, Rep.mono s _ _ r⟩⟩
        · exact rfl
      · rw [List.getElem?_eq_none (by rw [restE_len]; omega)] at e
        cases e
    · simp only [hm, if_false]
      rw [restE_out hm] at e
      rw [← k m hm]
      exact h.slot m sl e
  off := fun m e => by
    by_cases hm : m ∈ vs
    · simp [hm]
    · simp only [hm, if_false]
      rw [restE_out hm] at e
      exact h.off m e
  nd := fun m => by
    by_cases hm : m ∈ vs
    · simp [hm]
    · simp only [hm, if_false]; exact h.nd m
  dis := fun i j a ha hb => by
    by_cases hi : i ∈ vs
    · simp [hi] at ha
    · by_cases hj : j ∈ vs
      · simp [hj] at hb
      · simp only [hi, if_false] at ha
        simp only [hj, if_false] at hb
        exact h.dis i j a ha hb
  free := fun i a ha => by
    by_cases hi : i ∈ vs
    · simp [hi] at ha
    · simp only [hi, if_false] at ha
      exact h.free i a ha
  ndT := h.ndT
  disT := fun i a ha => by
    by_cases hi : i ∈ vs
    · simp [hi] at ha
    · simp only [hi, if_false] at ha
      exact h.disT i a ha
  freeT := h.freeT
/-- a pending thing is changed -/
theorem SRf.tmpUpd {p : Addr} {o o' : HO} (h : SRf K S F H σ ρ fps ((p, o) :: tmp)) : SRf K S F (upd H p o') σ ρ fps ((p, o') :: tmp) := by
  obtain ⟨f1, f2, f3⟩ := h.freeT (p, o) (by simp)
  have hd : SRf K S F H σ ρ fps tmp := SRf.drop (tm := [(p, o)]) h
  have np : ∀ i, p ∉ fps i := fun i z => h.disT i p z (by simp)
  have h1 : SRf K S F (upd H p o') σ ρ fps tmp := {
    hd with
    sub := fun a x q => by
      rw [upd_ne (fun z => by subst z; rw [f1] at q; cases q)]
      exact hd.sub _ _ q
    keep := fun a x q ni => by
      rw [upd_ne (fun z => by subst z; rw [f2] at q; cases q)]
      exact hd.keep _ _ q ni
    live := fun a q => by
      by_cases z : a = p
      · subst z; rw [upd_same] at q; cases q
      · rw [upd_ne z] at q; exact hd.live _ q
    slot := fun i s e => (hd.slot i s e).mono (Same.refl F) fun a ha => upd_ne fun z => by subst z; exact np i ha
    freeT := fun t ht => by
      obtain ⟨g1, g2, g3⟩ := hd.freeT t ht
      refine ⟨g1, g2, ?_⟩
      rw [upd_ne]
      · exact g3
      · intro z
        have nd := h.ndT
        rw [List.map_cons] at nd
        refine (List.nodup_cons.mp nd).1 ?_
        show p ∈ tmp.map (·.1)
        rw [← z]
        exact List.mem_map_of_mem ht }
  refine { h1 with ndT := h.ndT, disT := h.disT, freeT := fun t ht => ?_ }
  rcases List.mem_cons.mp ht with z | z
  · subst z; exact ⟨f1, f2, upd_same⟩
  · exact h1.freeT t z
/-- a test row of a comprehension -/
def VTs (X : Cx) (ifs : List Expr) (r : RT) : Prop := PTs X ifs (tVT X.K r)
theorem PTs.weak {ifs : List Expr} {t t' : TT} (h : PTs X ifs t) (w : ∀ σ H Q, t' σ H Q → t σ H Q) : PTs X ifs t' := ⟨fun pins s σ H Q I q => h.run pins s σ H Q I (w _ _ _ q)⟩
def rYes : RT := fun ρ Q => Q true ρ
theorem vts_nil : VTs X [] rYes := by
  refine PTs.weak pts_nil ?_
  rintro σ H Q' ⟨S, F, ρ, tmp, Q, h, hr, w⟩
  exact w _ _ ⟨F, ρ, Same.refl F, h, hr⟩
theorem vts_one {r : RT} (h : VT X c r) : VTs X [c] r := pts_one h
theorem tLc.of {ivs : List Nat} {is : List Nat} {ri : RI} {rg : RG} {rt : RT} {re : RE} (his : ∀ m ∈ is, m ∈ ivs) (σ : L2.St) (H : Hp) (Q' : VK) (h : tV K (rLc ivs ri rg rt re) σ H Q') : tLc (tVI K ri) (gV K is rg) (tVT K rt) (tV K re) ivs σ H Q' := by
  obtain ⟨S, F, ρ, tmp, Q, h, hr, w⟩ := h
  refine ⟨S, F, ρ, tmp, _, h, hr, fun J H1 ⟨F1, ρ1, items, s1, ⟨fps1, h1⟩, wk, wo, q1⟩ L hL => ?_⟩
  have hs0 : SRf K S F1 H1 σ (restE ivs ρ1 ρ1) fps1 tmp := by rw [restE_self wo]; exact h1
  refine ⟨fun i m H => ∃ F' ρ' acc accV fps', Same F1 F' ∧ SRf K S F' H σ (restE ivs ρ1 ρ') fps' ((L, .lst accV) :: tmp) ∧ ρ'.length = ρ1.length ∧ Reps K F' acc accV ∧ lcL ivs rg rt re (items.drop i) ρ' acc (fun ds ρ2 => Q (.lst ds) 1 (restE ivs ρ1 ρ2)) ∧ m = items.length - i ∧ i ≤ items.length,
    ⟨_, F1, ρ1, [], [], fps1, Same.refl F1, hs0.allocT hL, rfl, rfl, q1, rfl, Nat.zero_le _⟩, ?_⟩
  rintro i m H2 ⟨F2, ρ2, acc, accV, fps2, s2, h2, l2, ra, q2, rfl, hi⟩
  by_cases hlt : i < items.length
  · refine .inr ⟨wk.go F2 H2 i s2 h2.sub hlt, fun H' => ∃ F' ρ' acc accV fps', Same F1 F' ∧ SRf K S F' H' σ (restE ivs ρ1 ρ') fps' ((L, .lst accV) :: tmp) ∧ ρ'.length = ρ1.length ∧ Reps K F' acc accV ∧ lcL ivs rg rt re (items.drop (i + 1)) ρ' acc (fun ds ρ2 => Q (.lst ds) 1 (restE ivs ρ1 ρ2)), fun H' ⟨F', ρ', a, av, f', z1, z2, z3, z4, z5⟩ => ⟨items.length - (i + 1), by omega, F', ρ', a, av, f', z1, z2, z3, z4, z5, rfl, hlt⟩, fun x H3 y => ?_⟩
    have ed : items.drop i = items[i] :: items.drop (i + 1) := List.drop_eq_getElem_cons hlt
    obtain ⟨F3, fx, rx⟩ := wk.yld F2 H2 H3 i items[i] x s2 h2.sub (List.getElem?_eq_getElem hlt) y
    rw [ed] at q2
    obtain ⟨s3, h3⟩ := fx.sr h2
    have h3i := h3.into
    refine ⟨S, F3, _, _, _, items[i], ⟨_, h3i⟩, rx, q2, fun σ4 H4 k4 ⟨F4, ρ4, s4, h4, q4⟩ => ⟨?_, ?_⟩⟩
    · exact wipe_same (k4.1.trans (wipe_length σ ivs)) fun m hm => k4.2 m fun z => hm (his m z)
    · have kk : ∀ m, m ∉ ivs → σ4[m]? = σ[m]? := fun m hm => (k4.2 m fun z => hm (his m z)).trans (wipe_out hm)
      have l4 : σ4.length = σ.length := k4.1.trans (wipe_length σ ivs)
      have lr : ρ1.length = σ.length := h1.len
      have back : ∀ {F5 H5 : Hp} {ρ5 : Ev} {tmp5 : List (Addr × HO)}, Same F3 F5 → SR K S F5 H5 σ4 ρ5 tmp5 → ρ5.length = ρ1.length ∧ ∃ fps5, SRf K S F5 H5 σ (restE ivs ρ1 ρ5) fps5 tmp5 := fun {F5 H5 ρ5 tmp5} s5 ⟨fps5, h5⟩ => by
        have e : ρ5.length = ρ1.length := by rw [h5.len, l4, lr]
        exact ⟨e, _, SRf.outof h3 s5 (by rw [e, l2]) kk h5⟩
      refine ⟨S, F4, ρ4, _, _, h4, q4, fun b H5 ⟨F5, ρ5, s5, h5, q5⟩ => way.if ⟨fun e => ?_, fun e => ?_⟩⟩
      · refine tV.mk h5 (q5.1 e) fun v H6 q6 => ?_
        obtain ⟨F6, ρ6, d6, k6, s6, h6, r6, la, q6⟩ := q6.fz
        have s36 := (s4.trans s5).trans s6
        obtain ⟨l6, fps6, h6'⟩ := back s36 h6
        refine ⟨accV, (h6'.freeT (L, _) (by simp)).2.2, by rw [ra.length]; exact la, F6, ρ6, acc ++ [d6], accV ++ [v], fps6, s2.trans (s3.trans s36), h6'.tmpUpd, l6, (Reps.mono (s3.trans s36) _ _ ra).append (Reps.one r6), q6⟩
      · have s35 := s4.trans s5
        obtain ⟨l5, fps5, h5'⟩ := back s35 h5
        exact ⟨F5, ρ5, acc, accV, fps5, s2.trans (s3.trans s35), h5', l5, Reps.mono (s3.trans s35) _ _ ra, q5.2 e⟩
  · have e : i = items.length := by omega
    subst e
    rw [List.drop_length] at q2
    refine .inl ⟨wk.stop F2 H2 _ s2 h2.sub (Nat.le_refl _), w _ _ ⟨F2, _, _, 1, [(L, .lst accV)], s1.trans s2, ⟨fps2, h2⟩, OwnR.lst1 (h2.freeT (L, _) (by simp)).2.2 ra, q2⟩⟩
theorem ve_lc {is : List Nat} {elt tg iter : Expr} {ifs : List Expr} {scope : Scope} {own : List (Str × Nat)} {ri : RI} {rg : RG} {rt : RT} {re : RE} (hc : X.calm = true) (hN : X.N.Nodup) (hi : VI X tg iter ri) (ok : BlkOk X.N X.env.scope scope own) (his : ∀ m ∈ is, m ∈ own.map (·.2))
    (hg : ∀ (s : Shared) (H : Hp) (C : Addr) (cl : List (Str × Addr)) (fp : List Addr), VG (X.blk s H scope (compEnvC scope cl C X.env) fp) is tg rg) (ht : ∀ (s : Shared) (H : Hp) (C : Addr) (cl : List (Str × Addr)) (fp : List Addr), VTs (X.blk s H scope (compEnvC scope cl C X.env) fp) ifs rt)
    (he : ∀ (s : Shared) (H : Hp) (C : Addr) (cl : List (Str × Addr)) (fp : List Addr), VE (X.blk s H scope (compEnvC scope cl C X.env) fp) elt re) (hs : ∀ x, foldedSetIterable iter X.env x = pure x := by intro _; rfl) :
    VE X (.ListComp elt [⟨tg, iter, ifs, 0⟩] scope pos) (rLc (own.map (·.2)) ri rg rt re) :=
  PE.weak (pe_lc (g := gV X.K is rg) (tt := tVT X.K rt) (te := tV X.K re) hc hN hi ok hg ht he hs) fun σ H Q q => tLc.of his σ H Q q
theorem vs_setLc {is : List Nat} {i : Nat} {y : Str} {py spos : Pos} {elt tg iter : Expr} {ifs : List Expr} {scope : Scope} {own : List (Str × Nat)} {ri : RI} {rg : RG} {rt : RT} {re : RE} (hc : X.calm = true) (hN : X.N.Nodup) (hy : X.N[i]? = some y) (hyl : X.env.scope.names.lookup y = some .local)
    (hsw : swapsWith (.ListComp elt [⟨tg, iter, ifs, 0⟩] scope pos) (some (.Name y py)) spos.line X.env = pure true) (hi : VI X tg iter ri) (ok : BlkOk X.N X.env.scope scope own) (his : ∀ m ∈ is, m ∈ own.map (·.2))
    (hg : ∀ (s : Shared) (H : Hp) (C : Addr) (cl : List (Str × Addr)) (fp : List Addr), VG (X.blk s H scope (compEnvC scope cl C X.env) fp) is tg rg) (ht : ∀ (s : Shared) (H : Hp) (C : Addr) (cl : List (Str × Addr)) (fp : List Addr), VTs (X.blk s H scope (compEnvC scope cl C X.env) fp) ifs rt)
    (he : ∀ (s : Shared) (H : Hp) (C : Addr) (cl : List (Str × Addr)) (fp : List Addr), VE (X.blk s H scope (compEnvC scope cl C X.env) fp) elt re) (hs : ∀ x, foldedSetIterable iter X.env x = pure x := by intro _; rfl) :
    VS X (.Assign [.Name y py] (.ListComp elt [⟨tg, iter, ifs, 0⟩] scope pos) spos) (rSet i (rLc (own.map (·.2)) ri rg rt re)) := by
  refine PS.weak (ps_setLc (g := gV X.K is rg) (tt := tVT X.K rt) (te := tV X.K re) hc hN hy hyl hsw hi ok hg ht he hs) ?_
  rintro D σ H ⟨S, F, ρ, E, h, hr, w⟩
  refine tLc.of his σ H _ (tV.mk h hr fun v H1 q => ?_)
  obtain ⟨F1, ρ1, d, k, tm, s1, ⟨fps, h1⟩, r1, q0, q1⟩ := q
  exact w.nx _ _ ⟨F1, _, s1, ⟨_, h1.store r1 q0⟩, q1⟩
end
end VL

namespace VL
open PySem PySem.Spec PyProof.Rows L2

theorem bt_len : bootBuiltins "len" = some (.builtin "len") := by decide +kernel
theorem bt_abs : bootBuiltins "abs" = some (.builtin "abs") := by decide +kernel
theorem bt_min : bootBuiltins "min" = some (.builtin "min") := by decide +kernel
theorem bt_max : bootBuiltins "max" = some (.builtin "max") := by decide +kernel
theorem bt_any : bootBuiltins "any" = some (.builtin "any") := by decide +kernel
theorem bt_sum : bootBuiltins "sum" = some (.builtin "sum") := by decide +kernel
theorem bt_isinstance : bootBuiltins "isinstance" = some (.builtin "isinstance") := by decide +kernel
theorem bt_sorted : bootBuiltins "sorted" = some (.builtin "sorted") := by decide +kernel
theorem bt_repr : bootBuiltins "repr" = some (.builtin "repr") := by decide +kernel
theorem bt_int : bootBuiltins "int" = some (.type "int") := by decide +kernel
theorem bt_list : bootBuiltins "list" = some (.type "list") := by decide +kernel
theorem bt_tuple : bootBuiltins "tuple" = some (.type "tuple") := by decide +kernel
theorem hu64 {A : Around} {k : Nat} (hr : Room k A) : A.units + 64 < cLine := by have := hr.un; omega

def gLtI : G2 := fun a b R => match a, b with
  | .int i, .int j => R (.bl (decide (i < j))) 0
  | _, _ => False
def gGtI : G2 := fun a b R => match a, b with
  | .int i, .int j => R (.bl (decide (j < i))) 0
  | _, _ => False
def gGeI : G2 := fun a b R => match a, b with
  | .int i, .int j => R (.bl (decide (j ≤ i))) 0
  | _, _ => False
theorem lk_lt {K : Fg} : Lk2 K (rI0 fun i j => .bl (decide (i < j))) gLtI := lk_cmp
theorem lk_gt {K : Fg} : Lk2 K (rI0 fun i j => .bl (decide (j < i))) gGtI := lk_cmp
theorem lk_ge {K : Fg} : Lk2 K (rI0 fun i j => .bl (decide (j ≤ i))) gGeI := lk_cmp

/-- flat things: in, not in -/
def flatD : D → Bool
  | .non => true
  | .bl _ => true
  | .int _ => true
  | .str _ => true
  | _ => false
def toV : D → V
  | .non => .non
  | .bl b => .bl b
  | .int i => .int i
  | .str x => .str x
  | _ => .non
section
variable {K : Fg} {F H : Hp} {X : Cx}
theorem shal_flat {d : D} {v : V} (h : Shal K F H d v) (f : flatD d = true) : v = toV d ∧ flatV v = true := by
  cases d <;> first | exact absurd f Bool.false_ne_true | (cases h; exact ⟨rfl, rfl⟩)
theorem rep_flat {d : D} {v : V} (h : Rep K F d v) (f : flatD d = true) : v = toV d ∧ flatV v = true := by
  cases d <;> first | exact absurd f Bool.false_ne_true | (cases h; exact ⟨rfl, rfl⟩)
theorem reps_flat : ∀ {ds : List D} {vs : List V}, Reps K F ds vs → ds.all flatD = true → vs = ds.map toV ∧ vs.all flatV = true
  | [], _, h, _ => by cases h; exact ⟨rfl, rfl⟩
  | d :: ds, _, ⟨v, r, e, h, t⟩, f => by
    rw [List.all_cons, Bool.and_eq_true] at f
    obtain ⟨a, b⟩ := rep_flat h f.1
    obtain ⟨c, g⟩ := reps_flat t f.2
    subst e a c
    exact ⟨rfl, by rw [List.all_cons, b, g]; rfl⟩
def inD (d : D) (ds : List D) : Bool := inV (toV d) (ds.map toV)
def gInR (neg : Bool) : G2 := fun a b R => flatD a = true ∧ match b with
  | .lst ds => ds.all flatD = true ∧ R (.bl (if neg then !inD a ds else inD a ds)) 0
  | .tup ds => ds.all flatD = true ∧ R (.bl (if neg then !inD a ds else inD a ds)) 0
  | _ => False
def gIn : G2 := gInR false
theorem lk_inR {neg : Bool} : Lk2 K (rIn K neg) (gInR neg) := fun F H d1 d2 x y R Q' s h1 h2 ⟨f, g⟩ w => by
  obtain ⟨e1, f1⟩ := shal_flat h1 f
  subst e1
  cases d2 with
  | lst ds =>
    obtain ⟨p, vs, e2, hp, r⟩ := h2
    obtain ⟨e3, f3⟩ := reps_flat r g.1
    subst e3
    exact ⟨p, _, e2, .inl (.inl (.inl hp)), f1, f3, w _ _ _ _ .bl g.2⟩
  | tup ds =>
    obtain ⟨p, vs, e2, hp, r⟩ := h2
    obtain ⟨e3, f3⟩ := reps_flat r g.1
    subst e3
    exact ⟨p, _, e2, .inr (hp.sq s), f1, f3, w _ _ _ _ .bl g.2⟩
  | _ => exact g.elim
theorem lk_in : Lk2 K (rIn K false) gIn := lk_inR
end

section
variable {X : Cx} {e a b c : Expr} {es : List Expr} {pos p p2 : Pos} {K : Fg} {S : Frm} {F F' F1 H H' : Hp} {σ : L2.St} {ρ ρ' ρ1 : Ev} {tmp : List (Addr × HO)}
/-- a constant of the module -/
def KRep (K : Fg) (d : D) (u : Value) : Prop := ∃ v, RelV v u ∧ ∀ F, Rep K F d v
theorem ve_k {x : Str} {d : D} {u : Value} (hg : Gl X x) (h : X.mg x = some u ∧ KRep X.K d u) (hd : (x == ("__debug__" : Str)) = false := by decide) : VE X (.Name x p) (rC d) := by
  obtain ⟨hm, v, r, hF⟩ := h
  refine PE.weak (pe_glob hg hm r hd) ?_
  rintro σ H Q' ⟨S, F, ρ, tmp, Q, h, hr, w⟩
  exact w _ _ (VPost.of (Same.refl F) h (hF F) hr)
theorem KRep.int {i : Int} {t : Tok} : KRep K (.int i) (.int i t) := ⟨.int i, ⟨t, rfl⟩, fun _ => rfl⟩
/-- a tuple of two ints -/
theorem KRep.pair {i j : Int} {t u : Tok} {a : Addr} {o : Obj} {n : Nat} (h : K.lookup a = some o) (hc : o.cls = .type "tuple") (hd : o.data = .seq #[.int i t, .int j u] n) : KRep K (.tup [.int i, .int j]) (.ref a) :=
  ⟨.ref a, rfl, fun F => ⟨a, [.int i, .int j], rfl, .inr ⟨o, _, n, h, hc, hd, by show 2 ≤ sizeLine; decide, .cons ⟨t, rfl⟩ (.cons ⟨u, rfl⟩ .nil)⟩, _, _, rfl, rfl, _, _, rfl, rfl, rfl⟩⟩
/-- list(range(..)) -/
def rgOk (a b : Int) : Prop := -(2 ^ 62) ≤ a ∧ a < 2 ^ 62 ∧ -(2 ^ 62) ≤ b ∧ b < 2 ^ 62 ∧ (b - a).toNat ≤ 2 ^ 24
def rListRg1 (r : RE) : RE := fun ρ Q => r ρ fun d _ ρ1 => match d with | .int n => rgOk 0 n ∧ Q (.lst (rgL 0 n)) 1 ρ1 | _ => False
theorem reps_rg (m n : Int) : Reps K F (rgL m n) (rgV m n) := by
  have : ∀ l : List Nat, Reps K F (l.map fun i => .int (m + (i : Nat))) (l.map fun i => V.int (m + (i : Nat))) := fun l => by
    induction l with
    | nil => rfl
    | cons i l ih => exact ⟨_, _, rfl, rfl, ih⟩
  exact this _
theorem ve_listRg1 {r : RE} (hg : X.mg "list" = none) (hm : X.mg "range" = none) (ha : VE X a r) (hc : X.calm = true := by rfl) (hgl : Gl X "list" := by rfl) (hgr : Gl X "range" := by rfl) (na : starEach [a] X.env = (false, eval a X.env) :: starEach [] X.env := by rfl) (nb : starEach [.Call (.Name "range" p2) [a] [] pos] X.env = (false, eval (.Call (.Name "range" p2) [a] [] pos) X.env) :: starEach [] X.env := by rfl) {pos' : Pos} : VE X (.Call (.Name "list" p) [.Call (.Name "range" p2) [a] [] pos] [] pos') (rListRg1 r) := by
  refine PE.weak (pe_listRg hc hgl hg (prg_1 hgr hm ha na) nb) ?_
  rintro σ H Q' ⟨S, F, ρ, tmp, Q, h, hr, w⟩
  refine tV.mk h hr fun v H1 q => ?_
  obtain ⟨F1, ρ1, d, k, s1, h1, v1, q1⟩ := q.fz
  cases d with
  | int n => exact ⟨n, v1, q1.1, fun q hq => w _ _ ((Res.post h1 (.lst hq (reps_rg 0 n)) q1.2).from s1)⟩
  | _ => exact q1.elim
/-- a, b, c = e1, e2, e3 -/
theorem vs_par3 {i j l : Nat} {x y z : Str} {ra rb rc : RE} {px py pz pt : Pos} {kt k2 pt2} (hc : X.calm = true) (hN : X.N.Nodup) (hi : X.N[i]? = some x) (hj : X.N[j]? = some y) (hl : X.N[l]? = some z) (hij : i ≠ j) (hil : i ≠ l) (hjl : j ≠ l)
    (hx : X.env.scope.names.lookup x = some .local) (hy : X.env.scope.names.lookup y = some .local) (hz : X.env.scope.names.lookup z = some .local) (ha : VE X a ra) (hb : VE X b rb) (hcc : VE X c rc)
    (hw : swappedStores [.Tuple [.Name x px, .Name y py, .Name z pz] kt pt] (.Tuple [a, b, c] k2 pt2) X.env = pure (some [x, y, z]))
    (s1 : starEach [a, b, c] X.env = (false, eval a X.env) :: starEach [b, c] X.env := by rfl) (s2 : starEach [b, c] X.env = (false, eval b X.env) :: starEach [c] X.env := by rfl) (s3 : starEach [c] X.env = (false, eval c X.env) :: starEach [] X.env := by rfl)
    (hs : swapsWithSole [.Tuple [.Name x px, .Name y py, .Name z pz] kt pt] (.Tuple [a, b, c] k2 pt2) pos.line X.env = pure false := by rfl) :
    VS X (.Assign [.Tuple [.Name x px, .Name y py, .Name z pz] kt pt] (.Tuple [a, b, c] k2 pt2) pos) (rPar3 i j l ra rb rc) := by
  refine PS.weak (ps_par3 hc hN hi hj hl hij hil hjl hx hy hz (pa_cons ha (pa_cons hb (pa_cons hcc pa_nil s3) s2) s1) hw hs) ?_
  rintro D σ H ⟨S, F, ρ, E, h, hr, w⟩
  refine tV.mk h hr fun v1 H1 q => ?_
  obtain ⟨F1, ρ1, d1, k1, tm1, s1, ⟨fps1, h1⟩, r1, q1⟩ := q
  refine tV.mk ⟨fps1, h1⟩ q1 fun v2 H2 q => ?_
  obtain ⟨F2, ρ2, d2, k2, tm2, s2, ⟨fps2, h2⟩, r2, q2⟩ := q
  refine tV.mk ⟨fps2, h2⟩ q2 fun v3 H3 q => ?_
  obtain ⟨F3, ρ3, d3, k3, tm3, s3, ⟨fps3, h3⟩, r3, n1, n2, n3, q3⟩ := q
  have r1b := tmp_own s2 h1 h2 r1
  have r1c : OwnR X.K F3 H3 k1 d1 v1 (tm1.map (·.1)) := tmp_own (tm := tm1) (tmp := []) (tm' := tm3 ++ tm2) (s2.trans s3) h1 (by rw [List.append_assoc]; exact h3) r1
  have r2b := tmp_own s3 h2 h3 r2
  refine ⟨v1, v2, v3, rfl, w.nx _ _ ⟨F3, _, (s1.trans s2).trans s3, ?_, q3⟩⟩
  have e3 := h3.store r3 n3
  have e2 := e3.store r2b (i := j) (noIo_set n2 n3)
  have e1 := e2.store r1c (i := i) (noIo_set (noIo_set n1 n3) (noIo_set n2 n3))
  rw [List.set_comm _ _ (Ne.symm hij), List.set_comm (mkSl k2 d2) _ (Ne.symm hij), List.set_comm _ _ (Ne.symm hil), List.set_comm (mkSl k3 d3) _ (Ne.symm hil), List.set_comm _ _ (Ne.symm hjl), List.set_comm (mkSl k3 d3) _ (Ne.symm hjl)] at e1
  exact ⟨_, e1⟩
end
end VL

namespace VL
open PySem PySem.Spec PyProof.Rows L2

/-! ### what is no longer looked at is forgotten -/
section
variable {X : Cx} {st : Stmt} {sts : List Stmt} {K : Fg} {S : Frm} {F H : Hp} {σ : L2.St} {ρ ρ' : Ev} {fps : Nat → List Addr} {tmp : List (Addr × HO)} {i : Nat} {ws : List Nat}
theorem SRf.forget (h : SRf K S F H σ ρ fps tmp) : SRf K S F H σ (ρ.set i .no) (fun m => if m = i then [] else fps m) tmp := by
  have sub : ∀ m a, a ∈ (if m = i then [] else fps m) → a ∈ fps m := fun m a ha => by
    by_cases q : m = i
    · rw [if_pos q] at ha; exact absurd ha List.not_mem_nil
    · rw [if_neg q] at ha; exact ha
  refine ⟨h.sub, h.f0, h.fnew, h.keep, h.live, by rw [List.length_set]; exact h.len, fun m s e => ?_, fun m e => ?_, fun m => ?_, fun m n a ha hb => h.dis m n a (sub m a ha) (sub n a hb), fun m a ha => h.free m a (sub m a ha), h.ndT, fun m a ha => h.disT m a (sub m a ha), h.freeT⟩
  · show SlOk K S F H s _ (if m = i then [] else fps m)
    by_cases q : m = i
    · subst q
      rw [if_pos rfl]
      by_cases hl : m < ρ.length
      · rw [List.getElem?_set_self hl] at e
        cases e
        rfl
      · rw [List.getElem?_eq_none (by rw [List.length_set]; omega)] at e
        cases e
    · rw [if_neg q]
      rw [List.getElem?_set_ne (Ne.symm q)] at e
      exact h.slot m s e
  · show (if m = i then [] else fps m) = []
    by_cases q : m = i
    · rw [if_pos q]
    · rw [if_neg q]
      rw [List.getElem?_set_ne (Ne.symm q)] at e
      exact h.off m e
  · show (if m = i then [] else fps m).Nodup
    by_cases q : m = i
    · rw [if_pos q]; exact .nil
    · rw [if_neg q]; exact h.nd m
theorem SR.wipe (h : SR K S F H σ ρ tmp) : ∀ ws : List Nat, SR K S F H σ (wipeE ws ρ) tmp
  | [] => h
  | i :: r => by
    obtain ⟨fps, h1⟩ := SR.wipe h r
    exact ⟨_, h1.forget⟩
def allNo (ws : List Nat) (ρ : Ev) : Bool := ws.all fun i => noIo ρ i
def rIW (ws : List Nat) (ri : RI) : RI := fun ρ Q => ri ρ fun items ρ1 => allNo ws ρ1 = true ∧ Q items (wipeE ws ρ1)
def rBW (ws : List Nat) (rb : RS) : RS := fun ρ E => rb ρ { nx := fun ρ1 => allNo ws ρ1 = true ∧ E.nx (wipeE ws ρ1), rt := E.rt, bk := E.bk, ct := fun ρ1 => allNo ws ρ1 = true ∧ E.ct (wipeE ws ρ1) }
def rSW (ws : List Nat) (r : RS) : RS := fun ρ E => allNo ws ρ = true ∧ r (wipeE ws ρ) E
theorem vi_w {tg iter : Expr} {ri : RI} (h : VI X tg iter ri) : VI X tg iter (rIW ws ri) := by
  refine PI.weak h ?_
  rintro σ H Q' ⟨S, F, ρ, tmp, Q, h, hr, w⟩
  exact ⟨S, F, ρ, tmp, _, h, hr, fun J H' ⟨F', ρ', items, s1, h1, wk, q⟩ => w _ _ ⟨F', _, items, s1, h1.wipe ws, wk, q.2⟩⟩
theorem vss_w {r : RS} (h : VSs X sts r) : VSs X sts (rBW ws r) := by
  refine PSs.weak h ?_
  rintro D σ H ⟨S, F, ρ, E, h, hr, w⟩
  exact ⟨S, F, ρ, _, h, hr, ⟨fun σ' H' ⟨F', ρ', s1, h1, q⟩ => w.nx _ _ ⟨F', _, s1, h1.wipe ws, q.2⟩, w.rt, w.bk, fun σ' H' ⟨F', ρ', s1, h1, q⟩ => w.ct _ _ ⟨F', _, s1, h1.wipe ws, q.2⟩⟩⟩
theorem vs_w {r : RS} (h : VS X st r) : VS X st (rSW ws r) := by
  refine PS.weak h ?_
  rintro D σ H ⟨S, F, ρ, E, h, hr, w⟩
  exact ⟨S, F, _, E, h.wipe ws, hr.2, w⟩
end
end VL

namespace VL
open PySem PySem.Spec PyProof.Rows L2
local macro_rules | `(tactic| walk_at "v") => `(tactic| repeat (first | refine ⟨rfl, ?_⟩ | refine ⟨_, rfl, ?_⟩))
local macro_rules | `(tactic| walk_at "y") => `(tactic| refine ⟨fun _ => ?_, fun h => absurd h (by decide)⟩)
local macro_rules | `(tactic| walk_at "n") => `(tactic| refine ⟨fun h => absurd h (by decide), fun _ => ?_⟩)
local macro_rules | `(tactic| walk_at "ty") => `(tactic| refine ⟨_, rfl, by decide, ?_⟩)

abbrev RR := D → Nat → List D → Prop
/-! ### how long a number is -/
def bl (n : Nat) : Nat := if n = 0 then 0 else n.log2 + 1
theorem lt_bl (n : Nat) : n < 2 ^ bl n := by
  unfold bl
  split
  · rename_i h; subst h; decide
  · exact Nat.lt_log2_self
theorem bl_le {n k : Nat} (h : n < 2 ^ k) : bl n ≤ k := by
  unfold bl
  split
  · exact Nat.zero_le _
  · rename_i h0
    exact (Nat.log2_lt h0).mpr h
theorem bl_mono {m n : Nat} (h : m ≤ n) : bl m ≤ bl n := bl_le (Nat.lt_of_le_of_lt h (lt_bl n))
theorem bl_mul (m n : Nat) : bl (m * n) ≤ bl m + bl n := bl_le (by rw [Nat.pow_add]; exact Nat.mul_lt_mul'' (lt_bl m) (lt_bl n))
theorem bl_add (m n : Nat) : bl (m + n) ≤ max (bl m) (bl n) + 1 := by
  refine bl_le ?_
  have a := Nat.lt_of_lt_of_le (lt_bl m) (Nat.pow_le_pow_right (by decide : 2 > 0) (Nat.le_max_left (bl m) (bl n)))
  have b := Nat.lt_of_lt_of_le (lt_bl n) (Nat.pow_le_pow_right (by decide : 2 > 0) (Nat.le_max_right (bl m) (bl n)))
  rw [Nat.pow_succ]
  omega
theorem log_bl (n : Nat) : n.log2 ≤ bl n := by
  unfold bl
  split
  · rename_i h; subst h; decide
  · exact Nat.le_succ _
theorem MulOk.bl {i j : Int} (h : bl i.natAbs + bl j.natAbs < 134000000) : MulOk i j := by
  have a := log_bl i.natAbs
  have b := log_bl j.natAbs
  unfold MulOk
  omega
theorem bl_imul (i j : Int) : bl (i * j).natAbs ≤ bl i.natAbs + bl j.natAbs := by rw [Int.natAbs_mul]; exact bl_mul _ _
theorem bl_iadd (i j : Int) : bl (i + j).natAbs ≤ max (bl i.natAbs) (bl j.natAbs) + 1 := Nat.le_trans (bl_mono (Int.natAbs_add_le i j)) (bl_add _ _)
theorem bl_isub (i j : Int) : bl (i - j).natAbs ≤ max (bl i.natAbs) (bl j.natAbs) + 1 := by
  have h := bl_iadd i (-j)
  rw [Int.natAbs_neg, ← Int.sub_eq_add_neg] at h
  exact h

/-! ### parts as rationals -/
def dq (q : Rat) : D := .tup [.int q.num, .int q.den]
def wt (q : Rat) : Nat := max (bl q.num.natAbs) (bl q.den)
theorem wt_num (q : Rat) : bl q.num.natAbs ≤ wt q := Nat.le_max_left _ _
theorem wt_den (q : Rat) : bl q.den ≤ wt q := Nat.le_max_right _ _
theorem wt_den' (q : Rat) : bl (q.den : Int).natAbs ≤ wt q := Nat.le_max_right _ _
theorem eqb_int (i j : Int) : eqb (.int i) (.int j) = decide (i = j) := by
  show (i == j) = decide (i = j)
  rw [Bool.beq_eq_decide_eq]
theorem eqb_dq (p q : Rat) : eqb (dq p) (dq q) = decide (p = q) := by
  show (p.num == q.num && ((p.den : Int) == (q.den : Int) && true)) = _
  rw [Bool.and_true, Bool.eq_iff_iff, Bool.and_eq_true, beq_iff_eq, beq_iff_eq, decide_eq_true_iff]
  exact ⟨fun ⟨a, b⟩ => Rat.ext a (by omega), fun h => by subst h; exact ⟨rfl, rfl⟩⟩
theorem divInt_wt (t b : Int) (hb : b ≠ 0) : wt (Rat.divInt t b) ≤ max (bl t.natAbs) (bl b.natAbs) := by
  unfold wt
  rw [Rat.num_divInt, Rat.den_divInt, if_neg hb]
  refine Nat.max_le.mpr ⟨Nat.le_trans (bl_mono ?_) (Nat.le_max_left _ _), Nat.le_trans (bl_mono ?_) (Nat.le_max_right _ _)⟩
  · refine Nat.le_trans (Int.natAbs_ediv_le_natAbs _ _) ?_
    rw [Int.natAbs_mul]
    have : b.sign.natAbs ≤ 1 := by
      rcases Int.lt_trichotomy b 0 with h | h | h
      · rw [Int.sign_eq_neg_one_of_neg h]; decide
      · exact absurd h hb
      · rw [Int.sign_eq_one_of_pos h]; decide
    exact Nat.le_trans (Nat.mul_le_mul_right _ this) (by omega)
  · exact Nat.div_le_self _ _
theorem part_math (t b : Int) (hb : b ≠ 0) (s : Int) (hs : s = 1 ∧ 0 < b ∨ s = -1 ∧ b < 0) :
    t.fdiv (s * (Nat.gcd t.natAbs b.natAbs : Nat)) = (Rat.divInt t b).num ∧ b.fdiv (s * (Nat.gcd t.natAbs b.natAbs : Nat)) = ((Rat.divInt t b).den : Int) := by
  have hg : 0 < Nat.gcd t.natAbs b.natAbs := Nat.gcd_pos_of_pos_right _ (by omega)
  obtain ⟨k, hk⟩ : ((Nat.gcd t.natAbs b.natAbs : Nat) : Int) ∣ t := Int.ofNat_dvd_left.mpr (Nat.gcd_dvd_left _ _)
  obtain ⟨l, hl⟩ : ((Nat.gcd t.natAbs b.natAbs : Nat) : Int) ∣ b := Int.ofNat_dvd_left.mpr (Nat.gcd_dvd_right _ _)
  rw [Rat.num_divInt, Rat.den_divInt, if_neg hb]
  have eg : b.gcd t = Nat.gcd t.natAbs b.natAbs := Nat.gcd_comm _ _
  rw [eg]
  generalize hG : Nat.gcd t.natAbs b.natAbs = g at *
  have s1 : s * s = 1 := by rcases hs with ⟨h, _⟩ | ⟨h, _⟩ <;> (rw [h]; decide)
  have hsg : s * (g : Int) ≠ 0 := by
    rcases hs with ⟨h, _⟩ | ⟨h, _⟩ <;> (rw [h]; omega)
  have e1 : t = (s * g) * (s * k) := by
    rw [show (s * (g : Int)) * (s * k) = (s * s) * (g * k) by
      rw [Int.mul_assoc, Int.mul_assoc, Int.mul_left_comm (g : Int) s k], s1, Int.one_mul]
    exact hk
  have e2 : b = (s * g) * (s * l) := by
    rw [show (s * (g : Int)) * (s * l) = (s * s) * (g * l) by
      rw [Int.mul_assoc, Int.mul_assoc, Int.mul_left_comm (g : Int) s l], s1, Int.one_mul]
    exact hl
  have f1 : t.fdiv (s * g) = s * k := by
    conv => lhs; rw [e1]
    exact Int.mul_fdiv_cancel_left _ hsg
  have f2 : b.fdiv (s * g) = s * l := by
    conv => lhs; rw [e2]
    exact Int.mul_fdiv_cancel_left _ hsg
  rw [f1, f2]
  have sg : b.sign = s := by
    rcases hs with ⟨h, h2⟩ | ⟨h, h2⟩
    · rw [h]; exact Int.sign_eq_one_of_pos h2
    · rw [h]; exact Int.sign_eq_neg_one_of_neg h2
  refine ⟨?_, ?_⟩
  · rw [sg, hk, ← Int.mul_assoc, Int.mul_comm s (g : Int), Int.mul_assoc]
    exact (Int.mul_ediv_cancel_left _ (by omega)).symm
  · have h3 : (b.natAbs : Int) = g * (s * l) := by
      have h4 : (b.natAbs : Int) = s * b := by
        rcases hs with ⟨h, h2⟩ | ⟨h, h2⟩ <;> (rw [h]; omega)
      rw [h4, hl, Int.mul_left_comm]
    rw [Int.natCast_ediv, h3]
    exact (Int.mul_ediv_cancel_left _ (by omega)).symm

/-! ### divisor_of, part_at -/
@[irreducible] def sp_divisor_of : ASp := fun ds R => ∃ a b : Nat, ds = [.int a, .int b] ∧ R (.int (Nat.gcd a b)) 0 []
theorem sp_divisor_of.mk {a b : Nat} {R : RR} (h : R (.int (Nat.gcd a b)) 0 []) : sp_divisor_of [.int a, .int b] R := by
  unfold sp_divisor_of
  exact ⟨a, b, rfl, h⟩
theorem sp_divisor_of.mk' {a b : Int} {R : RR} (ha : 0 ≤ a) (hb : 0 ≤ b) (h : R (.int (Nat.gcd a.natAbs b.natAbs)) 0 []) : sp_divisor_of [.int a, .int b] R := by
  have e1 : a = (a.natAbs : Int) := by omega
  have e2 : b = (b.natAbs : Int) := by omega
  rw [e1, e2]
  exact .mk h
def rd_divisor_of : RS := (rSeq (rWhile (rTb (rOp2 gGtI (roV 1) (roE (rC (.int 0))))) (rPar 0 1 (rVar 1) (rOp2 gMd (roV 0) (roV 1))))
  (rRet (rMove 0)))
theorem rp_divisor_of (ds : List D) (R : RR) (hl : ds.length = 2) (h : sp_divisor_of ds R) : rd_divisor_of (rho0 [false, false] 0 ds ++ List.replicate (2 - 2) .no) (endsOf [false, false] R) := by
  unfold sp_divisor_of at h
  obtain ⟨a, b, rfl, h⟩ := h
  have key : ∀ (b a : Nat) (E : EN), E.nx [.fz (.int (Nat.gcd a b)), .fz (.int 0)] → ∃ n, whL (rTb (rOp2 gGtI (roV 1) (roE (rC (.int 0))))) (rPar 0 1 (rVar 1) (rOp2 gMd (roV 0) (roV 1))) n [.fz (.int a), .fz (.int b)] E := by
    intro b
    induction b using Nat.strongRecOn with
    | _ b ih =>
      intro a E hE
      by_cases hb : b = 0
      · subst hb
        refine ⟨1, ?_⟩
        walk_at "v"
        refine ⟨fun c => ?_, fun _ => ?_⟩
        · exact absurd c (by decide)
        · rw [Nat.gcd_zero_right] at hE
          exact hE
      · obtain ⟨n, hn⟩ := ih (a % b) (Nat.mod_lt _ (by omega)) b E (by rw [Nat.gcd_comm, ← Nat.gcd_rec, Nat.gcd_comm]; exact hE)
        refine ⟨n + 1, ?_⟩
        walk_at "v"
        refine ⟨fun _ => ?_, fun c => ?_⟩
        · walk_at "v"
          refine ⟨fun z => hb (by omega), ?_⟩
          walk_at "v"
          have e : Int.fmod (a : Int) (b : Int) = ((a % b : Nat) : Int) := by
            rw [Int.fmod_eq_emod_of_nonneg _ (by omega)]; rfl
          rw [e]
          exact hn
        · exact absurd (of_decide_eq_false c) (by omega)
  refine key b a _ ?_
  walk_at "v"
  exact h
@[irreducible] def sp_part_at : ASp := fun ds R => ∃ t b : Int, ds = [.int t, .int b] ∧ b ≠ 0 ∧ bl b.natAbs ≤ 100000000 ∧ R (dq (Rat.divInt t b)) 0 []
theorem sp_part_at.mk {t b : Int} {R : RR} (hb : b ≠ 0) (hs : bl b.natAbs ≤ 100000000) (h : R (dq (Rat.divInt t b)) 0 []) : sp_part_at [.int t, .int b] R := by
  unfold sp_part_at
  exact ⟨t, b, rfl, hb, hs, h⟩
theorem FdOk.gcd {t b s : Int} (hb : b ≠ 0) (hs : bl b.natAbs ≤ 100000000) (h : s = 1 ∨ s = -1) (x : Int) : FdOk x (s * (Nat.gcd t.natAbs b.natAbs : Nat)) := by
  have hg : 0 < Nat.gcd t.natAbs b.natAbs := Nat.gcd_pos_of_pos_right _ (by omega)
  show s * ((Nat.gcd t.natAbs b.natAbs : Nat) : Int) ≠ 0
  rcases h with h | h <;> (rw [h]; omega)
def rd_part_at : RS := (rSeq (rSet 2 (rCall [false, false] sp_divisor_of (rgAv (rCB gAbs (raCons (roV 0) raNil)) (rgAv (rCB gAbs (raCons (roV 1) raNil)) rgA0))))
  (rSeq (rIf (rTb (rOp2 gLtI (roV 1) (roE (rC (.int 0))))) (rSet 2 (rOp2 gSub (roE (rC (.int 0))) (roV 2))) rNext)
  (rRet (rTup1 (rfCons (rOp2 gFd (roV 0) (roV 2)) (rfCons (rOp2 gFd (roV 1) (roV 2)) rfNil))))))
theorem rp_part_at (ds : List D) (R : RR) (hl : ds.length = 2) (h : sp_part_at ds R) : rd_part_at (rho0 [false, false] 0 ds ++ List.replicate (3 - 2) .no) (endsOf [false, false] R) := by
  unfold sp_part_at at h
  obtain ⟨t, b, rfl, hb, hs, h⟩ := h
  walk_at "v"
  refine sp_divisor_of.mk ?_
  walk_at "v"
  refine ⟨fun c => ?_, fun c => ?_⟩
  · have c' := of_decide_eq_true c
    walk_at "v"
    have e : (0 : Int) - ((Nat.gcd t.natAbs b.natAbs : Nat) : Int) = -1 * ((Nat.gcd t.natAbs b.natAbs : Nat) : Int) := by omega
    rw [e]
    obtain ⟨m1, m2⟩ := part_math t b hb (-1) (.inr ⟨rfl, c'⟩)
    refine ⟨FdOk.gcd hb hs (.inr rfl) _, ?_⟩
    walk_at "v"
    refine ⟨FdOk.gcd hb hs (.inr rfl) _, ?_⟩
    walk_at "v"
    rw [m1, m2]
    exact h
  · have c' := of_decide_eq_false c
    walk_at "v"
    have e : ((Nat.gcd t.natAbs b.natAbs : Nat) : Int) = 1 * ((Nat.gcd t.natAbs b.natAbs : Nat) : Int) := by omega
    rw [e]
    obtain ⟨m1, m2⟩ := part_math t b hb 1 (.inl ⟨rfl, by omega⟩)
    refine ⟨FdOk.gcd hb hs (.inl rfl) _, ?_⟩
    walk_at "v"
    refine ⟨FdOk.gcd hb hs (.inl rfl) _, ?_⟩
    walk_at "v"
    rw [m1, m2]
    exact h
end VL

namespace VL
open PySem PySem.Spec PyProof.Rows L2
local macro_rules | `(tactic| walk_at "v") => `(tactic| repeat (first | refine ⟨rfl, ?_⟩ | refine ⟨_, rfl, ?_⟩))
local macro_rules | `(tactic| walk_at "y") => `(tactic| refine ⟨fun _ => ?_, fun h => absurd h (by decide)⟩)
local macro_rules | `(tactic| walk_at "n") => `(tactic| refine ⟨fun h => absurd h (by decide), fun _ => ?_⟩)
local macro_rules | `(tactic| walk_at "ty") => `(tactic| refine ⟨_, rfl, by decide, ?_⟩)

theorem mo {i j : Int} {a b : Nat} (h1 : bl i.natAbs ≤ a) (h2 : bl j.natAbs ≤ b) (h : a + b ≤ 100000000) : MulOk i j := MulOk.bl (by omega)
theorem den_ne (q : Rat) : (q.den : Int) ≠ 0 := by have := q.den_pos; omega
theorem plus_div (p q : Rat) : Rat.divInt (p.num * q.den + q.num * p.den) (p.den * q.den) = p + q := by
  conv => rhs; rw [← Rat.num_divInt_den p, ← Rat.num_divInt_den q]
  rw [Rat.divInt_add_divInt _ _ (den_ne p) (den_ne q)]
theorem minus_div (p q : Rat) : Rat.divInt (p.num * q.den - q.num * p.den) (p.den * q.den) = p - q := by
  conv => rhs; rw [← Rat.num_divInt_den p, ← Rat.num_divInt_den q]
  rw [Rat.divInt_sub_divInt _ _ (den_ne p) (den_ne q)]
theorem times_div (p q : Rat) : Rat.divInt (p.num * q.num) (p.den * q.den) = p * q := by
  conv => rhs; rw [← Rat.num_divInt_den p, ← Rat.num_divInt_den q]
  rw [Rat.divInt_mul_divInt]
theorem num_ne {q : Rat} (h : q ≠ 0) : q.num ≠ 0 := fun z => h (Rat.num_eq_zero.mp z)
theorem over_div (p q : Rat) (h : q ≠ 0) : Rat.divInt (p.num * q.den) (p.den * q.num) = p / q := by
  conv => rhs; rw [← Rat.num_divInt_den p, ← Rat.num_divInt_den q]
  rw [Rat.div_def, Rat.inv_divInt, Rat.divInt_mul_divInt]
theorem wt_add (p q : Rat) : wt (p + q) ≤ wt p + wt q + 1 := by
  rw [← plus_div]
  refine Nat.le_trans (divInt_wt _ _ (Int.mul_ne_zero (den_ne p) (den_ne q))) ?_
  have a := bl_iadd (p.num * q.den) (q.num * p.den)
  have b := bl_imul p.num q.den
  have c := bl_imul q.num p.den
  have d := bl_imul p.den q.den
  have e1 := wt_num p; have e2 := wt_num q; have e3 := wt_den' p; have e4 := wt_den' q
  omega
theorem wt_sub (p q : Rat) : wt (p - q) ≤ wt p + wt q + 1 := by
  rw [← minus_div]
  refine Nat.le_trans (divInt_wt _ _ (Int.mul_ne_zero (den_ne p) (den_ne q))) ?_
  have a := bl_isub (p.num * q.den) (q.num * p.den)
  have b := bl_imul p.num q.den
  have c := bl_imul q.num p.den
  have d := bl_imul p.den q.den
  have e1 := wt_num p; have e2 := wt_num q; have e3 := wt_den' p; have e4 := wt_den' q
  omega
theorem wt_mul (p q : Rat) : wt (p * q) ≤ wt p + wt q := by
  rw [← times_div]
  refine Nat.le_trans (divInt_wt _ _ (Int.mul_ne_zero (den_ne p) (den_ne q))) ?_
  have b := bl_imul p.num q.num
  have d := bl_imul p.den q.den
  have e1 := wt_num p; have e2 := wt_num q; have e3 := wt_den' p; have e4 := wt_den' q
  omega
theorem wt_div (p q : Rat) (h : q ≠ 0) : wt (p / q) ≤ wt p + wt q := by
  rw [← over_div p q h]
  refine Nat.le_trans (divInt_wt _ _ (Int.mul_ne_zero (den_ne p) (num_ne h))) ?_
  have b := bl_imul p.num q.den
  have d := bl_imul p.den q.num
  have e1 := wt_num p; have e2 := wt_num q; have e3 := wt_den' p; have e4 := wt_den' q
  omega

/-! ### plus, minus, times, over, is_less -/
@[irreducible] def sp_plus : ASp := fun ds R => ∃ p q, ds = [dq p, dq q] ∧ wt p + wt q ≤ 100000000 ∧ R (dq (p + q)) 0 []
@[irreducible] def sp_minus : ASp := fun ds R => ∃ p q, ds = [dq p, dq q] ∧ wt p + wt q ≤ 100000000 ∧ R (dq (p - q)) 0 []
@[irreducible] def sp_times : ASp := fun ds R => ∃ p q, ds = [dq p, dq q] ∧ wt p + wt q ≤ 100000000 ∧ R (dq (p * q)) 0 []
@[irreducible] def sp_over : ASp := fun ds R => ∃ p q, ds = [dq p, dq q] ∧ q ≠ 0 ∧ wt p + wt q ≤ 100000000 ∧ R (dq (p / q)) 0 []
@[irreducible] def sp_is_less : ASp := fun ds R => ∃ p q, ds = [dq p, dq q] ∧ wt p + wt q ≤ 100000000 ∧ R (.bl (decide (p < q))) 0 []
section
variable {p q : Rat} {R : RR}
theorem sp_plus.mk (hs : wt p + wt q ≤ 100000000) (h : R (dq (p + q)) 0 []) : sp_plus [dq p, dq q] R := by unfold sp_plus; exact ⟨p, q, rfl, hs, h⟩
theorem sp_minus.mk (hs : wt p + wt q ≤ 100000000) (h : R (dq (p - q)) 0 []) : sp_minus [dq p, dq q] R := by unfold sp_minus; exact ⟨p, q, rfl, hs, h⟩
theorem sp_times.mk (hs : wt p + wt q ≤ 100000000) (h : R (dq (p * q)) 0 []) : sp_times [dq p, dq q] R := by unfold sp_times; exact ⟨p, q, rfl, hs, h⟩
theorem sp_over.mk (hq : q ≠ 0) (hs : wt p + wt q ≤ 100000000) (h : R (dq (p / q)) 0 []) : sp_over [dq p, dq q] R := by unfold sp_over; exact ⟨p, q, rfl, hq, hs, h⟩
theorem sp_is_less.mk (hs : wt p + wt q ≤ 100000000) (h : R (.bl (decide (p < q))) 0 []) : sp_is_less [dq p, dq q] R := by unfold sp_is_less; exact ⟨p, q, rfl, hs, h⟩
end
def rd_plus : RS := (rRet (rCall [false, false] sp_part_at (rgAv (rOp2 gAddV (roE (rOp2 gMul (roE (rOp2 gIx (roV 0) (roE (rC (.int 0))))) (roE (rOp2 gIx (roV 1) (roE (rC (.int 1))))))) (roE (rOp2 gMul (roE (rOp2 gIx (roV 1) (roE (rC (.int 0))))) (roE (rOp2 gIx (roV 0) (roE (rC (.int 1)))))))) (rgAv (rOp2 gMul (roE (rOp2 gIx (roV 0) (roE (rC (.int 1))))) (roE (rOp2 gIx (roV 1) (roE (rC (.int 1)))))) rgA0))))
def rd_minus : RS := (rRet (rCall [false, false] sp_part_at (rgAv (rOp2 gSub (roE (rOp2 gMul (roE (rOp2 gIx (roV 0) (roE (rC (.int 0))))) (roE (rOp2 gIx (roV 1) (roE (rC (.int 1))))))) (roE (rOp2 gMul (roE (rOp2 gIx (roV 1) (roE (rC (.int 0))))) (roE (rOp2 gIx (roV 0) (roE (rC (.int 1)))))))) (rgAv (rOp2 gMul (roE (rOp2 gIx (roV 0) (roE (rC (.int 1))))) (roE (rOp2 gIx (roV 1) (roE (rC (.int 1)))))) rgA0))))
def rd_times : RS := (rRet (rCall [false, false] sp_part_at (rgAv (rOp2 gMul (roE (rOp2 gIx (roV 0) (roE (rC (.int 0))))) (roE (rOp2 gIx (roV 1) (roE (rC (.int 0)))))) (rgAv (rOp2 gMul (roE (rOp2 gIx (roV 0) (roE (rC (.int 1))))) (roE (rOp2 gIx (roV 1) (roE (rC (.int 1)))))) rgA0))))
def rd_over : RS := (rSeq (rIf (rTb (rOp2 gEq (roE (rOp2 gIx (roV 1) (roE (rC (.int 0))))) (roE (rC (.int 0))))) rNever rNext)
  (rRet (rCall [false, false] sp_part_at (rgAv (rOp2 gMul (roE (rOp2 gIx (roV 0) (roE (rC (.int 0))))) (roE (rOp2 gIx (roV 1) (roE (rC (.int 1)))))) (rgAv (rOp2 gMul (roE (rOp2 gIx (roV 0) (roE (rC (.int 1))))) (roE (rOp2 gIx (roV 1) (roE (rC (.int 0)))))) rgA0)))))
def rd_is_less : RS := (rRet (rOp2 gLtI (roE (rOp2 gMul (roE (rOp2 gIx (roV 0) (roE (rC (.int 0))))) (roE (rOp2 gIx (roV 1) (roE (rC (.int 1))))))) (roE (rOp2 gMul (roE (rOp2 gIx (roV 1) (roE (rC (.int 0))))) (roE (rOp2 gIx (roV 0) (roE (rC (.int 1)))))))))
theorem rp_plus (ds : List D) (R : RR) (hl : ds.length = 2) (h : sp_plus ds R) : rd_plus (rho0 [false, false] 0 ds ++ List.replicate (2 - 2) .no) (endsOf [false, false] R) := by
  unfold sp_plus at h
  obtain ⟨p, q, rfl, hs, h⟩ := h
  have e1 := wt_num p; have e2 := wt_num q; have e3 := wt_den' p; have e4 := wt_den' q
  walk_at "v"
  refine ⟨mo e1 e4 (by omega), ?_⟩
  walk_at "v"
  refine ⟨mo e2 e3 (by omega), ?_⟩
  walk_at "v"
  refine ⟨mo e3 e4 (by omega), ?_⟩
  walk_at "v"
  have b := bl_imul p.den q.den
  refine sp_part_at.mk (Int.mul_ne_zero (den_ne p) (den_ne q)) (by omega) ?_
  walk_at "v"
  rw [plus_div]
  exact h
theorem rp_minus (ds : List D) (R : RR) (hl : ds.length = 2) (h : sp_minus ds R) : rd_minus (rho0 [false, false] 0 ds ++ List.replicate (2 - 2) .no) (endsOf [false, false] R) := by
  unfold sp_minus at h
  obtain ⟨p, q, rfl, hs, h⟩ := h
  have e1 := wt_num p; have e2 := wt_num q; have e3 := wt_den' p; have e4 := wt_den' q
  walk_at "v"
  refine ⟨mo e1 e4 (by omega), ?_⟩
  walk_at "v"
  refine ⟨mo e2 e3 (by omega), ?_⟩
  walk_at "v"
  refine ⟨mo e3 e4 (by omega), ?_⟩
  walk_at "v"
  have b := bl_imul p.den q.den
  refine sp_part_at.mk (Int.mul_ne_zero (den_ne p) (den_ne q)) (by omega) ?_
  walk_at "v"
  rw [minus_div]
  exact h
theorem rp_times (ds : List D) (R : RR) (hl : ds.length = 2) (h : sp_times ds R) : rd_times (rho0 [false, false] 0 ds ++ List.replicate (2 - 2) .no) (endsOf [false, false] R) := by
  unfold sp_times at h
  obtain ⟨p, q, rfl, hs, h⟩ := h
  have e1 := wt_num p; have e2 := wt_num q; have e3 := wt_den' p; have e4 := wt_den' q
  walk_at "v"
  refine ⟨mo e1 e2 (by omega), ?_⟩
  walk_at "v"
  refine ⟨mo e3 e4 (by omega), ?_⟩
  walk_at "v"
  have b := bl_imul p.den q.den
  refine sp_part_at.mk (Int.mul_ne_zero (den_ne p) (den_ne q)) (by omega) ?_
  walk_at "v"
  rw [times_div]
  exact h
theorem rp_over (ds : List D) (R : RR) (hl : ds.length = 2) (h : sp_over ds R) : rd_over (rho0 [false, false] 0 ds ++ List.replicate (2 - 2) .no) (endsOf [false, false] R) := by
  unfold sp_over at h
  obtain ⟨p, q, rfl, hq, hs, h⟩ := h
  have e1 := wt_num p; have e2 := wt_num q; have e3 := wt_den' p; have e4 := wt_den' q
  walk_at "v"
  rw [eqb_int]
  refine ⟨fun c => absurd (of_decide_eq_true c) (num_ne hq), fun _ => ?_⟩
  walk_at "v"
  refine ⟨mo e1 e4 (by omega), ?_⟩
  walk_at "v"
  refine ⟨mo e3 e2 (by omega), ?_⟩
  walk_at "v"
  have b := bl_imul p.den q.num
  refine sp_part_at.mk (Int.mul_ne_zero (den_ne p) (num_ne hq)) (by omega) ?_
  walk_at "v"
  rw [over_div p q hq]
  exact h
theorem rp_is_less (ds : List D) (R : RR) (hl : ds.length = 2) (h : sp_is_less ds R) : rd_is_less (rho0 [false, false] 0 ds ++ List.replicate (2 - 2) .no) (endsOf [false, false] R) := by
  unfold sp_is_less at h
  obtain ⟨p, q, rfl, hs, h⟩ := h
  have e1 := wt_num p; have e2 := wt_num q; have e3 := wt_den' p; have e4 := wt_den' q
  walk_at "v"
  refine ⟨mo e1 e4 (by omega), ?_⟩
  walk_at "v"
  refine ⟨mo e2 e3 (by omega), ?_⟩
  walk_at "v"
  have e : (decide (p < q)) = decide (p.num * q.den < q.num * p.den) := decide_eq_decide.mpr (Rat.lt_iff p q)
  rw [e] at h
  exact h
/-! ### sums -/
def k_ZERO : D := dq 0
def k_ONE : D := dq 1
def qsum : List Rat → Rat → Rat
  | [], a => a
  | p :: ps, a => qsum ps (a + p)
def wsum (ps : List Rat) : Nat := (ps.map fun p => wt p + 1).sum
theorem wt_qsum : ∀ (ps : List Rat) (a : Rat), wt (qsum ps a) ≤ wt a + wsum ps
  | [], a => Nat.le_add_right _ _
  | p :: ps, a => by
    have h := wt_qsum ps (a + p)
    have h2 := wt_add a p
    show wt (qsum ps (a + p)) ≤ wt a + ((wt p + 1) + wsum ps)
    omega
theorem qsum_acc : ∀ (ps : List Rat) (a : Rat), qsum ps a = a + qsum ps 0
  | [], a => (Rat.add_zero a).symm
  | p :: ps, a => by
    show qsum ps (a + p) = a + qsum ps (0 + p)
    rw [qsum_acc ps (a + p), qsum_acc ps (0 + p)]
    grind
@[irreducible] def sp_sum_of : ASp := fun ds R => ∃ ps : List Rat, ds = [.lst (ps.map dq)] ∧ wsum ps ≤ 40000000 ∧ R (dq (qsum ps 0)) 0 []
theorem sp_sum_of.mk {ps : List Rat} {R : RR} (hs : wsum ps ≤ 40000000) (h : R (dq (qsum ps 0)) 0 []) : sp_sum_of [.lst (ps.map dq)] R := by unfold sp_sum_of; exact ⟨ps, rfl, hs, h⟩
def rd_sum_of : RS := (rSeq (rSet 1 (rC k_ZERO))
  (rSeq (rFor (riSeq (rVar 0)) (rgName 2) (rSet 1 (rCall [false, false] sp_plus (rgAv (rVar 1) (rgAv (rVar 2) rgA0)))))
  (rRet (rMove 1))))
theorem rp_sum_of (ds : List D) (R : RR) (hl : ds.length = 1) (h : sp_sum_of ds R) : rd_sum_of (rho0 [false] 0 ds ++ List.replicate (3 - 1) .no) (endsOf [false] R) := by
  unfold sp_sum_of at h
  obtain ⟨ps, rfl, hs, h⟩ := h
  walk_at "v"
  have key : ∀ (ps : List Rat) (a : Rat) (x y : Sl) (E : EN), (y = .no ∨ ∃ d, y = .fz d) → wt a + wsum ps ≤ 40000002 → (∀ y, E.nx [x, .fz (dq (qsum ps a)), y]) →
      forL (rgName 2) (rSet 1 (rCall [false, false] sp_plus (rgAv (rVar 1) (rgAv (rVar 2) rgA0)))) (ps.map dq) [x, .fz (dq a), y] E := by
    intro ps
    induction ps with
    | nil => intro a x y E _ _ hE; exact hE _
    | cons p ps ih =>
      intro a x y E hy hw hE
      have hw' : wt a + ((wt p + 1) + wsum ps) ≤ 40000002 := hw
      have e := wt_add a p
      rcases hy with rfl | ⟨d, rfl⟩
      · walk_at "v"
        refine sp_plus.mk (by omega) ?_
        walk_at "v"
        exact ih (a + p) _ _ _ (.inr ⟨_, rfl⟩) (by omega) hE
      · walk_at "v"
        refine sp_plus.mk (by omega) ?_
        walk_at "v"
        exact ih (a + p) _ _ _ (.inr ⟨_, rfl⟩) (by omega) hE
  have h0 : wt 0 = 1 := by decide +kernel
  refine key ps 0 _ _ _ (.inl rfl) (by omega) fun y => ?_
  walk_at "v"
  exact h
end VL

namespace VL
open PySem PySem.Spec PyProof.Rows L2
local macro_rules | `(tactic| walk_at "v") => `(tactic| repeat (first | refine ⟨rfl, ?_⟩ | refine ⟨_, rfl, ?_⟩))
local macro_rules | `(tactic| walk_at "y") => `(tactic| refine ⟨fun _ => ?_, fun h => absurd h (by decide)⟩)
local macro_rules | `(tactic| walk_at "n") => `(tactic| refine ⟨fun h => absurd h (by decide), fun _ => ?_⟩)
local macro_rules | `(tactic| walk_at "ty") => `(tactic| refine ⟨_, rfl, by decide, ?_⟩)

/-! ### the law's parts: the same by other words -/
theorem part_math2 (t b : Int) (hb : b ≠ 0) (s : Int) (hs : s = 1 ∧ 0 < b ∨ s = -1 ∧ b < 0) :
    (s * t).fdiv (Nat.gcd t.natAbs b.natAbs : Nat) = (Rat.divInt t b).num ∧ (s * b).fdiv (Nat.gcd t.natAbs b.natAbs : Nat) = ((Rat.divInt t b).den : Int) := by
  obtain ⟨m1, m2⟩ := part_math t b hb s hs
  have hg : 0 < Nat.gcd t.natAbs b.natAbs := Nat.gcd_pos_of_pos_right _ (by omega)
  obtain ⟨k, hk⟩ : ((Nat.gcd t.natAbs b.natAbs : Nat) : Int) ∣ t := Int.ofNat_dvd_left.mpr (Nat.gcd_dvd_left _ _)
  obtain ⟨l, hl⟩ : ((Nat.gcd t.natAbs b.natAbs : Nat) : Int) ∣ b := Int.ofNat_dvd_left.mpr (Nat.gcd_dvd_right _ _)
  rw [← m1, ← m2]
  generalize hG : Nat.gcd t.natAbs b.natAbs = g at *
  have s1 : s * s = 1 := by rcases hs with ⟨h, _⟩ | ⟨h, _⟩ <;> (rw [h]; decide)
  have hsg : s * (g : Int) ≠ 0 := by
    rcases hs with ⟨h, _⟩ | ⟨h, _⟩ <;> (rw [h]; omega)
  have key : ∀ x k : Int, x = g * k → (s * x).fdiv g = x.fdiv (s * g) := fun x k e => by
    have e1 : s * x = g * (s * k) := by rw [e, Int.mul_left_comm]
    have e2 : x = (s * g) * (s * k) := by
      rw [show (s * (g : Int)) * (s * k) = (s * s) * (g * k) by
        rw [Int.mul_assoc, Int.mul_assoc, Int.mul_left_comm (g : Int) s k], s1, Int.one_mul]
      exact e
    have f1 : (s * x).fdiv g = s * k := by rw [e1]; exact Int.mul_fdiv_cancel_left _ (by omega)
    have f2 : x.fdiv (s * g) = s * k := by
      conv => lhs; rw [e2]
      exact Int.mul_fdiv_cancel_left _ hsg
    rw [f1, f2]
  exact ⟨key t k hk, key b l hl⟩
@[irreducible] def sp_l_part : ASp := fun ds R => ∃ t b : Int, ds = [.int t, .int b] ∧ b ≠ 0 ∧ bl t.natAbs ≤ 110000000 ∧ bl b.natAbs ≤ 100000000 ∧ R (dq (Rat.divInt t b)) 0 []
theorem sp_l_part.mk {t b : Int} {R : RR} (hb : b ≠ 0) (ht : bl t.natAbs ≤ 110000000) (hs : bl b.natAbs ≤ 100000000) (h : R (dq (Rat.divInt t b)) 0 []) : sp_l_part [.int t, .int b] R := by
  unfold sp_l_part
  exact ⟨t, b, rfl, hb, ht, hs, h⟩
def rd_l_part : RS := (rSeq (rPar 2 3 (rCB gAbs (raCons (roV 0) raNil)) (rCB gAbs (raCons (roV 1) raNil)))
  (rSeq (rWhile (rTb (rOp2 gGtI (roV 3) (roE (rC (.int 0))))) (rPar 2 3 (rVar 3) (rOp2 gMd (roV 2) (roV 3))))
  (rSeq (rSet 4 (rIfE (rTb (rOp2 gGtI (roV 1) (roE (rC (.int 0))))) (rC (.int 1)) (rNeg (rC (.int 1)))))
  (rRet (rTup1 (rfCons (rOp2 gFd (roE (rOp2 gMul (roV 4) (roV 0))) (roV 2)) (rfCons (rOp2 gFd (roE (rOp2 gMul (roV 4) (roV 1))) (roV 2)) rfNil)))))))
theorem rp_l_part (ds : List D) (R : RR) (hl : ds.length = 2) (h : sp_l_part ds R) : rd_l_part (rho0 [false, false] 0 ds ++ List.replicate (5 - 2) .no) (endsOf [false, false] R) := by
  unfold sp_l_part at h
  obtain ⟨t, b, rfl, hb, ht, hs, h⟩ := h
  walk_at "v"
  have key : ∀ (c a : Nat) (x y z : Sl) (E : EN), E.nx [x, y, .fz (.int (Nat.gcd a c)), .fz (.int 0), z] → ∃ n, whL (rTb (rOp2 gGtI (roV 3) (roE (rC (.int 0))))) (rPar 2 3 (rVar 3) (rOp2 gMd (roV 2) (roV 3))) n [x, y, .fz (.int a), .fz (.int c), z] E := by
    intro c
    induction c using Nat.strongRecOn with
    | _ c ih =>
      intro a x y z E hE
      by_cases hc : c = 0
      · subst hc
        refine ⟨1, ?_⟩
        walk_at "v"
        refine ⟨fun c => ?_, fun _ => ?_⟩
        · exact absurd c (by decide)
        · rw [Nat.gcd_zero_right] at hE
          exact hE
      · obtain ⟨n, hn⟩ := ih (a % c) (Nat.mod_lt _ (by omega)) c x y z E (by rw [Nat.gcd_comm, ← Nat.gcd_rec, Nat.gcd_comm]; exact hE)
        refine ⟨n + 1, ?_⟩
        walk_at "v"
        refine ⟨fun _ => ?_, fun c => ?_⟩
        · walk_at "v"
          refine ⟨fun z => hc (by omega), ?_⟩
          walk_at "v"
          have e : Int.fmod (a : Int) (c : Int) = ((a % c : Nat) : Int) := by
            rw [Int.fmod_eq_emod_of_nonneg _ (by omega)]; rfl
          rw [e]
          exact hn
        · exact absurd (of_decide_eq_false c) (by omega)
  have e1 : bl (Int.natAbs 1) = 1 := by decide
  have e2 : bl (Int.natAbs (-1)) = 1 := by decide
  have fd : ∀ x, FdOk x (Nat.gcd t.natAbs b.natAbs : Nat) := fun x => by
    have := FdOk.gcd (t := t) hb hs (.inl rfl) x
    rw [Int.one_mul] at this
    exact this
  refine key _ _ _ _ _ _ ?_
  walk_at "v"
  refine ⟨fun c => ?_, fun c => ?_⟩
  · have c' := of_decide_eq_true c
    obtain ⟨m1, m2⟩ := part_math2 t b hb 1 (.inl ⟨rfl, c'⟩)
    walk_at "v"
    refine ⟨MulOk.bl (by first | omega | (dsimp only; omega)), ?_⟩
    walk_at "v"
    refine ⟨fd _, ?_⟩
    walk_at "v"
    refine ⟨MulOk.bl (by first | omega | (dsimp only; omega)), ?_⟩
    walk_at "v"
    refine ⟨fd _, ?_⟩
    walk_at "v"
    rw [m1, m2]
    exact h
  · have c' := of_decide_eq_false c
    obtain ⟨m1, m2⟩ := part_math2 t b hb (-1) (.inr ⟨rfl, by omega⟩)
    walk_at "v"
    refine ⟨MulOk.bl (by first | omega | (dsimp only; omega)), ?_⟩
    walk_at "v"
    refine ⟨fd _, ?_⟩
    walk_at "v"
    refine ⟨MulOk.bl (by first | omega | (dsimp only; omega)), ?_⟩
    walk_at "v"
    refine ⟨fd _, ?_⟩
    walk_at "v"
    rw [m1, m2]
    exact h
abbrev sp_l_plus : ASp := sp_plus
abbrev sp_l_times : ASp := sp_times
abbrev sp_l_less : ASp := sp_is_less
def rd_l_plus : RS := (rRet (rCall [false, false] sp_l_part (rgAv (rOp2 gAddV (roE (rOp2 gMul (roE (rOp2 gIx (roV 0) (roE (rC (.int 0))))) (roE (rOp2 gIx (roV 1) (roE (rC (.int 1))))))) (roE (rOp2 gMul (roE (rOp2 gIx (roV 1) (roE (rC (.int 0))))) (roE (rOp2 gIx (roV 0) (roE (rC (.int 1)))))))) (rgAv (rOp2 gMul (roE (rOp2 gIx (roV 0) (roE (rC (.int 1))))) (roE (rOp2 gIx (roV 1) (roE (rC (.int 1)))))) rgA0))))
def rd_l_times : RS := (rRet (rCall [false, false] sp_l_part (rgAv (rOp2 gMul (roE (rOp2 gIx (roV 0) (roE (rC (.int 0))))) (roE (rOp2 gIx (roV 1) (roE (rC (.int 0)))))) (rgAv (rOp2 gMul (roE (rOp2 gIx (roV 0) (roE (rC (.int 1))))) (roE (rOp2 gIx (roV 1) (roE (rC (.int 1)))))) rgA0))))
def rd_l_less : RS := rd_is_less
theorem rp_l_plus (ds : List D) (R : RR) (hl : ds.length = 2) (h : sp_plus ds R) : rd_l_plus (rho0 [false, false] 0 ds ++ List.replicate (2 - 2) .no) (endsOf [false, false] R) := by
  unfold sp_plus at h
  obtain ⟨p, q, rfl, hs, h⟩ := h
  have e1 := wt_num p; have e2 := wt_num q; have e3 := wt_den' p; have e4 := wt_den' q
  walk_at "v"
  refine ⟨mo e1 e4 (by omega), ?_⟩
  walk_at "v"
  refine ⟨mo e2 e3 (by omega), ?_⟩
  walk_at "v"
  refine ⟨mo e3 e4 (by omega), ?_⟩
  walk_at "v"
  have b := bl_imul p.den q.den
  have b1 := bl_iadd (p.num * q.den) (q.num * p.den)
  have b2 := bl_imul p.num q.den
  have b3 := bl_imul q.num p.den
  refine sp_l_part.mk (Int.mul_ne_zero (den_ne p) (den_ne q)) (by omega) (by omega) ?_
  walk_at "v"
  rw [plus_div]
  exact h
theorem rp_l_times (ds : List D) (R : RR) (hl : ds.length = 2) (h : sp_times ds R) : rd_l_times (rho0 [false, false] 0 ds ++ List.replicate (2 - 2) .no) (endsOf [false, false] R) := by
  unfold sp_times at h
  obtain ⟨p, q, rfl, hs, h⟩ := h
  have e1 := wt_num p; have e2 := wt_num q; have e3 := wt_den' p; have e4 := wt_den' q
  walk_at "v"
  refine ⟨mo e1 e2 (by omega), ?_⟩
  walk_at "v"
  refine ⟨mo e3 e4 (by omega), ?_⟩
  walk_at "v"
  have b := bl_imul p.den q.den
  have b2 := bl_imul p.num q.num
  refine sp_l_part.mk (Int.mul_ne_zero (den_ne p) (den_ne q)) (by omega) (by omega) ?_
  walk_at "v"
  rw [times_div]
  exact h
theorem rp_l_less (ds : List D) (R : RR) (hl : ds.length = 2) (h : sp_is_less ds R) : rd_l_less (rho0 [false, false] 0 ds ++ List.replicate (2 - 2) .no) (endsOf [false, false] R) := rp_is_less ds R hl h

/-! ### the tape -/
structure Tp where
  a : Int
  b : Int
  c : Int
def dT (t : Tp) : D := .lst [.int t.a, .int t.b, .int t.c]
/-- n more draws are all right -/
def Tp.ok (n : Nat) (t : Tp) : Prop := 0 ≤ t.a ∧ 0 ≤ t.b ∧ t.b < 2 ^ 62 ∧ 0 ≤ t.c ∧ t.c + n ≤ 2 ^ 40
theorem Tp.ok.le {m n : Nat} {t : Tp} (h : t.ok n) (l : m ≤ n) : t.ok m := by
  unfold Tp.ok at h ⊢
  omega
def tapeN : Nat := 2 ^ 40
theorem Tp.ok.of {m : Nat} {t : Tp} (h : t.ok tapeN) (l : m ≤ 1099511627776) : t.ok m := h.le (by unfold tapeN; omega)
@[irreducible] def sp_l_begun : ASp := fun ds R => ∃ (ns : List Int) (k : Int), ds = [.scr ns, .int k] ∧ 0 ≤ k ∧ k ≤ 1000 ∧ (∀ n ∈ ns, bl n.natAbs ≤ 2000000) ∧ ∀ t : Tp, t.ok tapeN → R (dT t) 1 []
theorem sp_l_begun.mk {ns : List Int} {k : Int} {R : RR} (h0 : 0 ≤ k) (h1 : k ≤ 1000) (hb : ∀ n ∈ ns, bl n.natAbs ≤ 2000000) (h : ∀ t : Tp, t.ok tapeN → R (dT t) 1 []) : sp_l_begun [.scr ns, .int k] R := by
  unfold sp_l_begun
  exact ⟨ns, k, rfl, h0, h1, hb, h⟩
def rd_l_begun : RS := (rSeq (rSet 2 (rIfE (rTb (rOp2 gLtI (roV 1) (roE (rCB gLen (raCons (roV 0) raNil))))) (rOp2 gIx (roV 0) (roV 1)) (rC (.int 0))))
  (rRet (rLst1 (rfCons (rOp2 gMul (roE (rCB gAbs (raCons (roV 2) raNil))) (roE (rCB gIntOf (raCons (roE (rOp2 gGeI (roE (rCB gAbs (raCons (roV 2) raNil))) (roE (rOp2 gPow (roE (rC (.int 10))) (roE (rC (.int 18))))))) raNil)))) (rfCons (rOp2 gAddV (roE (rOp2 gAddV (roE (rOp2 gMd (roV 2) (roE (rC (.int 2305843009213693951))))) (roE (rOp2 gMul (roE (rC (.int 39373))) (roV 1))))) (roE (rC (.int 17)))) (rfCons (rC (.int 0)) rfNil))))))
theorem atI_get_nn {α : Type} {xs : List α} {i : Int} (h0 : 0 ≤ i) (h1 : i < xs.length) : ∃ x, atI xs i = some x ∧ x ∈ xs := by
  have h2 : i.toNat < xs.length := by omega
  refine ⟨xs[i.toNat], ?_, List.getElem_mem h2⟩
  have := atI_nat (xs := xs) (j := i.toNat) (v := xs[i.toNat]) (List.getElem?_eq_getElem h2)
  rw [Int.toNat_of_nonneg h0] at this
  exact this
theorem bl_small {n k : Nat} (h : n < 2 ^ k) : bl n ≤ k := bl_le h
theorem rp_l_begun (ds : List D) (R : RR) (hl : ds.length = 2) (h : sp_l_begun ds R) : rd_l_begun (rho0 [false, false] 0 ds ++ List.replicate (3 - 2) .no) (endsOf [false, false] R) := by
  unfold sp_l_begun at h
  obtain ⟨ns, k, rfl, h0, h1, hb, h⟩ := h
  have tail : ∀ c : Int, bl c.natAbs ≤ 2000000 → (rRet (rLst1 (rfCons (rOp2 gMul (roE (rCB gAbs (raCons (roV 2) raNil))) (roE (rCB gIntOf (raCons (roE (rOp2 gGeI (roE (rCB gAbs (raCons (roV 2) raNil))) (roE (rOp2 gPow (roE (rC (.int 10))) (roE (rC (.int 18))))))) raNil)))) (rfCons (rOp2 gAddV (roE (rOp2 gAddV (roE (rOp2 gMd (roV 2) (roE (rC (.int 2305843009213693951))))) (roE (rOp2 gMul (roE (rC (.int 39373))) (roV 1))))) (roE (rC (.int 17)))) (rfCons (rC (.int 0)) rfNil))))) [.fz (.scr ns), .fz (.int k), .fz (.int c)] (endsOf [false, false] R) := by
    intro c hc
    walk_at "v"
    refine ⟨⟨by decide, by decide, by decide⟩, ?_⟩
    walk_at "v"
    have b1 : ∀ k : Bool, bl (bi k).natAbs ≤ 1 := fun k => by cases k <;> decide
    have b2 := b1 (decide ((10 : Int) ^ (Int.toNat 18) ≤ (c.natAbs : Int)))
    have b3 : bl (c.natAbs : Int).natAbs ≤ 2000000 := hc
    refine ⟨MulOk.bl (by first | omega | (dsimp only; omega)), ?_⟩
    walk_at "v"
    refine ⟨by decide, ?_⟩
    walk_at "v"
    have b4 : bl k.natAbs ≤ 10 := bl_small (by omega)
    have b5 : bl (Int.natAbs 39373) ≤ 16 := by decide
    refine ⟨MulOk.bl (by first | omega | (dsimp only; omega)), ?_⟩
    walk_at "v"
    refine h ⟨_, _, 0⟩ ?_
    refine ⟨?_, ?_, ?_, by show (0 : Int) ≤ 0; omega, by show (0 : Int) + (2 ^ 40 : Nat) ≤ 2 ^ 40; omega⟩
    · show 0 ≤ (c.natAbs : Int) * bi _
      refine Int.mul_nonneg (by omega) ?_
      unfold bi
      split <;> omega
    · show 0 ≤ c.fmod 2305843009213693951 + 39373 * k + 17
      have := Int.fmod_nonneg_of_pos c (show (0 : Int) < 2305843009213693951 by decide)
      omega
    · show c.fmod 2305843009213693951 + 39373 * k + 17 < 2 ^ 62
      have := Int.fmod_lt_of_pos c (show (0 : Int) < 2305843009213693951 by decide)
      omega
  walk_at "v"
  refine ⟨fun c => ?_, fun c => ?_⟩
  · obtain ⟨x, e, hx⟩ := atI_get_nn h0 (of_decide_eq_true c)
    walk_at "v"
    refine ⟨x, e, ?_⟩
    exact ⟨rfl, tail x (hb x hx)⟩
  · exact ⟨rfl, tail 0 (by decide)⟩
@[irreducible] def sp_l_draw : ASp := fun ds R => ∃ (t : Tp) (m : Int) (n : Nat), ds = [dT t, .int m] ∧ t.ok (n + 1) ∧ 0 < m ∧ m < 2 ^ 8000 ∧ ∀ (r : Int) (t' : Tp), 0 ≤ r → r < m → t'.ok n → R (.int r) 0 [dT t']
theorem sp_l_draw.mk {t : Tp} {m : Int} {R : RR} (n : Nat) (ht : t.ok (n + 1)) (h0 : 0 < m) (h1 : m < 2 ^ 8000) (h : ∀ (r : Int) (t' : Tp), 0 ≤ r → r < m → t'.ok n → R (.int r) 0 [dT t']) : sp_l_draw [dT t, .int m] R := by
  unfold sp_l_draw
  exact ⟨t, m, n, rfl, ht, h0, h1, h⟩
def rd_l_draw : RS := (rSeq (rIf (rTb (rOp2 gGtI (roE (rOp2 gIx (roV 0) (roE (rC (.int 0))))) (roE (rC (.int 0))))) (rSeq (rSet 2 (rOp2 gMd (roE (rOp2 gIx (roV 0) (roE (rC (.int 0))))) (roV 1)))
  (rSeq (rSetIx 0 (rOp2 gFd (roE (rOp2 gIx (roV 0) (roE (rC (.int 0))))) (roV 1)) (rC (.int 0)))
  (rRet (rMove 2)))) rNext)
  (rSeq (rSetIx 0 (rOp2 gAddV (roE (rOp2 gIx (roV 0) (roE (rC (.int 2))))) (roE (rC (.int 1)))) (rC (.int 2)))
  (rSeq (rSet 3 (rOp2 gMd (roE (rOp2 gPow (roE (rOp2 gAddV (roE (rOp2 gIx (roV 0) (roE (rC (.int 1))))) (roE (rOp2 gMul (roE (rC (.int 39373))) (roE (rOp2 gIx (roV 0) (roE (rC (.int 2))))))))) (roE (rC (.int 5))))) (roE (rC (.int 2147483647)))))
  (rSeq (rSet 4 (rOp2 gMd (roE (rOp2 gMul (roE (rOp2 gAddV (roV 3) (roE (rOp2 gIx (roV 0) (roE (rC (.int 2))))))) (roE (rOp2 gAddV (roE (rOp2 gAddV (roE (rOp2 gMd (roV 3) (roE (rC (.int 40009))))) (roE (rC (.int 7))))) (roE (rOp2 gIx (roV 0) (roE (rC (.int 2))))))))) (roE (rC (.int 2147483629)))))
  (rRet (rOp2 gMd (roE (rOp2 gFd (roE (rOp2 gMd (roE (rOp2 gAddV (roE (rOp2 gMul (roV 4) (roE (rC (.int 48271))))) (roV 3))) (roE (rC (.int 2147483587))))) (roE (rC (.int 64))))) (roV 1)))))))
theorem FdOk.pos {i m : Int} (h0 : 0 < m) (h1 : m < 2 ^ 8000) : FdOk i m := by
  show m ≠ 0
  omega
theorem rp_l_draw (ds : List D) (R : RR) (hl : ds.length = 2) (h : sp_l_draw ds R) : rd_l_draw (rho0 [true, false] 0 ds ++ List.replicate (5 - 2) .no) (endsOf [true, false] R) := by
  unfold sp_l_draw at h
  obtain ⟨⟨a, b, c⟩, m, n, rfl, ⟨ha, hb, hb2, hc, hc2⟩, h0, h1, h⟩ := h
  dsimp only at ha hb hb2 hc hc2
  have hF : ∀ i : Int, FdOk i m := fun i => FdOk.pos h0 h1
  clear h1
  walk_at "v"
  refine ⟨fun z => ?_, fun z => ?_⟩
  · have z' := of_decide_eq_true z
    walk_at "v"
    refine ⟨by omega, ?_⟩
    walk_at "v"
    refine ⟨hF _, ?_⟩
    walk_at "v"
    refine h _ ⟨a.fdiv m, b, c⟩ (Int.fmod_nonneg_of_pos a h0) (Int.fmod_lt_of_pos a h0) ⟨?_, hb, hb2, hc, by show c + (n : Int) ≤ 2 ^ 40; omega⟩
    show 0 ≤ a.fdiv m
    rw [Int.fdiv_eq_ediv_of_nonneg _ (by omega)]
    exact Int.ediv_nonneg ha (by omega)
  · walk_at "v"
    have p1 : bl (Int.natAbs 39373) ≤ 16 := by decide
    have p2 : bl (c + 1).natAbs ≤ 41 := bl_small (by omega)
    refine ⟨MulOk.bl (by dsimp only; omega), ?_⟩
    walk_at "v"
    refine ⟨⟨by decide, by decide, by dsimp only; omega⟩, ?_⟩
    walk_at "v"
    refine ⟨by decide, ?_⟩
    walk_at "v"
    generalize ho : ((b + 39373 * (c + 1)) ^ (Int.toNat 5)).fmod 2147483647 = o at *
    have o1 : 0 ≤ o := by rw [← ho]; exact Int.fmod_nonneg_of_pos _ (by decide)
    have o2 : o < 2147483647 := by rw [← ho]; exact Int.fmod_lt_of_pos _ (by decide)
    refine ⟨by decide, ?_⟩
    walk_at "v"
    generalize hq : o.fmod 40009 = q at *
    have q1 : 0 ≤ q := by rw [← hq]; exact Int.fmod_nonneg_of_pos _ (by decide)
    have q2 : q < 40009 := by rw [← hq]; exact Int.fmod_lt_of_pos _ (by decide)
    have r1 : bl (o + (c + 1)).natAbs ≤ 42 := bl_small (by omega)
    have r2 : bl (q + 7 + (c + 1)).natAbs ≤ 42 := bl_small (by omega)
    refine ⟨MulOk.bl (by first | omega | (dsimp only; omega)), ?_⟩
    walk_at "v"
    refine ⟨by decide, ?_⟩
    walk_at "v"
    generalize hw : ((o + (c + 1)) * (q + 7 + (c + 1))).fmod 2147483629 = w at *
    have w1 : 0 ≤ w := by rw [← hw]; exact Int.fmod_nonneg_of_pos _ (by decide)
    have w2 : w < 2147483629 := by rw [← hw]; exact Int.fmod_lt_of_pos _ (by decide)
    have r3 : bl w.natAbs ≤ 42 := bl_small (by omega)
    have r4 : bl (Int.natAbs 48271) ≤ 42 := by decide
    refine ⟨MulOk.bl (by first | omega | (dsimp only; omega)), ?_⟩
    walk_at "v"
    refine ⟨by decide, ?_⟩
    walk_at "v"
    refine ⟨(fun z => absurd z (by decide)), ?_⟩
    walk_at "v"
    refine ⟨by omega, ?_⟩
    walk_at "v"
    exact h _ ⟨a, b, c + 1⟩ (Int.fmod_nonneg_of_pos _ h0) (Int.fmod_lt_of_pos _ h0) ⟨ha, hb, hb2, by show 0 ≤ c + 1; omega, by show c + 1 + (n : Int) ≤ 2 ^ 40; omega⟩
end VL

namespace VL
open PySem PySem.Spec PyProof.Rows L2
theorem smallL {n : Nat} (h : Nat.ble n 1000 = true) : n < sizeLine := small1000 (Nat.le_of_ble_eq_true h)
theorem smallE {n : Nat} (h : Nat.ble n 1000 = true) : n ≤ sizeLine := Nat.le_of_lt (smallL h)
local macro_rules | `(tactic| walk_at "v") => `(tactic| repeat (first | refine ⟨rfl, ?_⟩ | refine ⟨_, rfl, ?_⟩))
local macro_rules | `(tactic| walk_at "y") => `(tactic| refine ⟨fun _ => ?_, fun h => Bool.noConfusion (show true = false from h)⟩)
local macro_rules | `(tactic| walk_at "n") => `(tactic| refine ⟨fun h => Bool.noConfusion (show false = true from h), fun _ => ?_⟩)
local macro_rules | `(tactic| walk_at "ty") => `(tactic| refine ⟨_, rfl, by decide, ?_⟩)
local macro_rules | `(tactic| walk_at "tys") => `(tactic| refine ⟨_, rfl, _, rfl, by decide, ?_⟩)
theorem tyIn {T : String} (h : tyList.contains T = true) : T ∈ tyList := List.contains_iff_mem.mp h
theorem tysIn {Ts : List String} (h : (Ts.all fun T => tyList.contains T) = true) : ∀ T ∈ Ts, T ∈ tyList := fun T hT => tyIn (List.all_eq_true.mp h T hT)
local macro_rules | `(tactic| walk_at "z") => `(tactic| repeat (first | refine ⟨rfl, ?_⟩ | refine ⟨_, rfl, ?_⟩ | refine ⟨fun _ => ?_, fun h => Bool.noConfusion (show true = false from h)⟩ | refine ⟨fun h => Bool.noConfusion (show false = true from h), fun _ => ?_⟩ | refine ⟨tyIn rfl, ?_⟩ | refine ⟨tysIn rfl, ?_⟩ | refine ⟨smallL rfl, ?_⟩ | refine ⟨smallE rfl, ?_⟩))

/-! ### plain data: rows and ints of at most B, at most m deep -/
def D.datb (B : Nat) : Nat → D → Bool
  | 0, d => match d with
    | .non => true
    | .bl _ => true
    | .int i => Nat.ble (VL.bl i.natAbs) B
    | .str x => Nat.ble x.length 2100 && PyData.strOk x
    | .dct ks vs => ks.isEmpty && vs.isEmpty
    | _ => false
  | m + 1, d => match d with
    | .non => true
    | .bl _ => true
    | .int i => Nat.ble (VL.bl i.natAbs) B
    | .str x => Nat.ble x.length 2100 && PyData.strOk x
    | .dct ks vs => ks.isEmpty && vs.isEmpty
    | .tup ds => Nat.ble ds.length B && ds.all (D.datb B m)
    | .lst ds => Nat.ble ds.length B && ds.all (D.datb B m)
    | _ => false
mutual
def D.sz : D → Nat
  | .non => 5
  | .bl _ => 5
  | .int i => VL.bl i.natAbs + 3
  | .str x => (reprText x).length
  | .opq _ => 0
  | .scr _ => 0
  | .pdc _ _ => 0
  | .tup ds => D.szs ds + 3
  | .lst ds => D.szs ds + 3
  | .dct _ _ => 3
  | .exc _ _ _ => 0
def D.szs : List D → Nat
  | [] => 0
  | d :: ds => d.sz + 2 + D.szs ds
end
def isRow : D → Bool
  | .tup _ => true
  | .lst _ => true
  | _ => false
def D.dat (B m : Nat) (d : D) : Prop := d.datb B m = true
def datL (B m : Nat) (ds : List D) : Prop := ds.length ≤ B ∧ ∀ d ∈ ds, d.dat B m
theorem datL_iff {B m : Nat} {ds : List D} : (Nat.ble ds.length B && ds.all (D.datb B m)) = true ↔ datL B m ds := by
  rw [Bool.and_eq_true, List.all_eq_true]
  exact ⟨fun h => ⟨Nat.le_of_ble_eq_true h.1, h.2⟩, fun h => ⟨Nat.ble_eq_true_of_le h.1, h.2⟩⟩
theorem dat_lst {B m : Nat} {ds : List D} : (D.lst ds).dat B (m + 1) ↔ datL B m ds := datL_iff
theorem dat_tup {B m : Nat} {ds : List D} : (D.tup ds).dat B (m + 1) ↔ datL B m ds := datL_iff
theorem dat_int {B m : Nat} {i : Int} : (D.int i).dat B m ↔ bl i.natAbs ≤ B := by
  cases m <;> exact ⟨Nat.le_of_ble_eq_true, Nat.ble_eq_true_of_le⟩
theorem dat_row {B m : Nat} {ds : List D} (h : (D.lst ds).dat B m ∨ (D.tup ds).dat B m) : ∃ k, m = k + 1 ∧ datL B k ds := by
  cases m with
  | zero => rcases h with h | h <;> exact absurd h Bool.false_ne_true
  | succ m => rcases h with h | h <;> exact ⟨m, rfl, datL_iff.mp h⟩
theorem sp_l_draw.mk' {t : Tp} {m : Int} {R : RR} (n : Nat) (ht : t.ok (n + 1)) (h0 : 0 < m) (h1 : m < 4611686018427387904) (h : ∀ (r : Int) (t' : Tp), 0 ≤ r → r < m → t'.ok n → R (.int r) 0 [dT t']) : sp_l_draw [dT t, .int m] R := by
  refine .mk n ht h0 (Int.lt_trans h1 ?_) h
  have e : ((2 ^ 8000 : Nat) : Int) = (2 : Int) ^ 8000 := by rw [Int.natCast_pow]; rfl
  have e2 : ((2 ^ 62 : Nat) : Int) = 4611686018427387904 := by decide
  rw [← e, ← e2]
  exact Int.ofNat_lt.mpr (Nat.pow_lt_pow_right (by decide) (by decide))
/-! ### numbers and parts among data -/
def isNum : D → Bool
  | .int _ => true
  | _ => false
def isPart : D → Bool
  | .tup [.int a, .int b] => decide (0 < b) && decide (Nat.gcd a.natAbs b.natAbs = 1)
  | _ => false
@[irreducible] def sp_is_number : ASp := fun ds R => ∃ d, ds = [d] ∧ (tyD d).isSome = true ∧ R (.bl (isNum d)) 0 []
theorem sp_is_number.mk {d : D} {R : RR} (h : (tyD d).isSome = true) (r : R (.bl (isNum d)) 0 []) : sp_is_number [d] R := by
  unfold sp_is_number
  exact ⟨d, rfl, h, r⟩
@[irreducible] def sp_is_part : ASp := fun ds R => ∃ d B m, ds = [d] ∧ d.dat B m ∧ R (.bl (isPart d)) 0 []
theorem sp_is_part.mk {d : D} {B m : Nat} {R : RR} (h : d.dat B m) (r : R (.bl (isPart d)) 0 []) : sp_is_part [d] R := by
  unfold sp_is_part
  exact ⟨d, B, m, rfl, h, r⟩
@[irreducible] def sp_l_is_part : ASp := fun ds R => ∃ d B m, ds = [d] ∧ B ≤ 9000 ∧ d.dat B m ∧ R (.bl (isPart d)) 0 []
theorem sp_l_is_part.mk {d : D} {B m : Nat} {R : RR} (hB : B ≤ 9000) (h : d.dat B m) (r : R (.bl (isPart d)) 0 []) : sp_l_is_part [d] R := by
  unfold sp_l_is_part
  exact ⟨d, B, m, rfl, hB, h, r⟩
@[irreducible] def sp_l_odd : ASp := fun ds R => ∃ t n, ds = [dT t] ∧ t.ok (n + 1) ∧ ∀ r t', r.dat 104 3 → r.sz ≤ 300 → t'.ok n → R r 0 [dT t']
theorem sp_l_odd.mk {t : Tp} {R : RR} (n : Nat) (ht : t.ok (n + 1)) (h : ∀ r t', r.dat 104 3 → r.sz ≤ 300 → t'.ok n → R r 0 [dT t']) : sp_l_odd [dT t] R := by
  unfold sp_l_odd
  exact ⟨t, n, rfl, ht, h⟩
@[irreducible] def sp_l_bent (m : Nat) : ASp := fun ds R => ∃ t d n B j, ds = [dT t, d] ∧ j ≤ m ∧ d.dat B j ∧ 104 ≤ B ∧ B ≤ 5000 ∧ t.ok (n + (4 + 2 * j)) ∧ ∀ r t', r.dat (B + 2) (j + 3) → (isRow d = true → isRow r = true) → r.sz ≤ 3 * d.sz + 400 → t'.ok n → R r 0 [dT t']
theorem sp_l_bent.mk {m : Nat} {t : Tp} {d : D} {R : RR} (n B j : Nat) (hj : j ≤ m) (hd : d.dat B j) (hB : 104 ≤ B) (hB2 : B ≤ 5000) (ht : t.ok (n + (4 + 2 * j))) (h : ∀ r t', r.dat (B + 2) (j + 3) → (isRow d = true → isRow r = true) → r.sz ≤ 3 * d.sz + 400 → t'.ok n → R r 0 [dT t']) : sp_l_bent m [dT t, d] R := by
  unfold sp_l_bent
  exact ⟨t, d, n, B, j, rfl, hj, hd, hB, hB2, ht, h⟩
@[irreducible] def sp_l_number : ASp := fun ds R => ∃ t n, ds = [dT t] ∧ t.ok (n + 5) ∧ ∀ q t', wt q ≤ 21 → q.den ≤ 1000 → t'.ok n → R (dq q) 0 [dT t']
theorem sp_l_number.mkd {t : Tp} {R : RR} (n : Nat) (ht : t.ok (n + 5)) (h : ∀ q t', wt q ≤ 21 → q.den ≤ 1000 → t'.ok n → R (dq q) 0 [dT t']) : sp_l_number [dT t] R := by
  unfold sp_l_number
  exact ⟨t, n, rfl, ht, h⟩
theorem sp_l_number.mk {t : Tp} {R : RR} (n : Nat) (ht : t.ok (n + 5)) (h : ∀ q t', wt q ≤ 21 → t'.ok n → R (dq q) 0 [dT t']) : sp_l_number [dT t] R := sp_l_number.mkd n ht fun q t' h1 _ h2 => h q t' h1 h2
theorem divInt_den_le {a b : Int} {n : Nat} (hb : 0 < b) (h : b.natAbs ≤ n) : (Rat.divInt a b).den ≤ n := by
  rw [Rat.den_divInt, if_neg (by omega)]
  exact Nat.le_trans (Nat.div_le_self _ _) h
@[irreducible] def sp_l_number_of : ASp := fun ds R => ∃ t n, ds = [dT t] ∧ t.ok (n + 3) ∧ ∀ (i : Int) t', bl i.natAbs ≤ 101 → t'.ok n → R (.int i) 0 [dT t']
theorem sp_l_number_of.mk {t : Tp} {R : RR} (n : Nat) (ht : t.ok (n + 3)) (h : ∀ (i : Int) t', bl i.natAbs ≤ 101 → t'.ok n → R (.int i) 0 [dT t']) : sp_l_number_of [dT t] R := by
  unfold sp_l_number_of
  exact ⟨t, n, rfl, ht, h⟩
def rd_l_number : RS := (rSeq (rPar3 1 2 3 (rCall [true, false] sp_l_draw (rgAs 0 (rgAv (rC (.int 12)) rgA0))) (rOp2 gSub (roE (rCall [true, false] sp_l_draw (rgAs 0 (rgAv (rC (.int 9)) rgA0)))) (roE (rC (.int 4)))) (rOp2 gAddV (roE (rC (.int 2))) (roE (rCall [true, false] sp_l_draw (rgAs 0 (rgAv (rC (.int 5)) rgA0))))))
  (rSeq (rIf (rTb (rOp2 gEq (roV 1) (roE (rC (.int 0))))) (rRet (rCall [false, false] sp_l_part (rgAv (rOp2 gSub (roE (rCall [true, false] sp_l_draw (rgAs 0 (rgAv (rOp2 gMul (roE (rC (.int 2))) (roE (rOp2 gPow (roE (rC (.int 10))) (roE (rC (.int 6)))))) rgA0)))) (roE (rOp2 gPow (roE (rC (.int 10))) (roE (rC (.int 6)))))) (rgAv (rOp2 gAddV (roE (rC (.int 1))) (roE (rCall [true, false] sp_l_draw (rgAs 0 (rgAv (rC (.int 1000)) rgA0))))) rgA0)))) rNext)
  (rRet (rIfE (rTb (rOp2 gLtI (roV 1) (roE (rC (.int 9))))) (rTup1 (rfCons (rVar 2) (rfCons (rC (.int 1)) rfNil))) (rCall [false, false] sp_l_part (rgAv (rVar 2) (rgAv (rVar 3) rgA0)))))))
theorem rp_l_number (ds : List D) (R : RR) (hl : ds.length = 1) (h : sp_l_number ds R) : rd_l_number (rho0 [true] 0 ds ++ List.replicate (4 - 1) .no) (endsOf [true] R) := by
  unfold sp_l_number at h
  obtain ⟨t, n, rfl, ht, h⟩ := h
  walk_at "z"
  refine sp_l_draw.mk' (n + 4) ht (by decide) (by decide) fun w t1 w0 w1 ht1 => ?_
  walk_at "z"
  refine sp_l_draw.mk' (n + 3) ht1 (by decide) (by decide) fun s t2 s0 s1 ht2 => ?_
  walk_at "z"
  refine sp_l_draw.mk' (n + 2) ht2 (by decide) (by decide) fun b t3 b0 b1 ht3 => ?_
  walk_at "z"
  rw [eqb_int]
  refine ⟨fun c => ?_, fun c => ?_⟩
  · walk_at "z"
    refine ⟨⟨by decide, by decide, by decide⟩, ?_⟩
    walk_at "z"
    refine ⟨MulOk.bl (by decide), ?_⟩
    walk_at "z"
    refine sp_l_draw.mk' (n + 1) ht3 (by decide) (by decide) fun x t4 x0 x1 ht4 => ?_
    walk_at "z"
    refine ⟨⟨by decide, by decide, by decide⟩, ?_⟩
    walk_at "z"
    refine sp_l_draw.mk' n ht4 (by decide) (by decide) fun y t5 y0 y1 ht5 => ?_
    walk_at "z"
    have x1' : x < 2000000 := x1
    have f1 : bl (x - 10 ^ Int.toNat 6).natAbs ≤ 21 := bl_small (by
      show (x - 1000000).natAbs < 2 ^ 21
      omega)
    have f2 : bl (1 + y).natAbs ≤ 21 := bl_small (by omega)
    refine sp_l_part.mk (by omega) (by omega) (by omega) ?_
    walk_at "z"
    exact h _ t5 (Nat.le_trans (divInt_wt _ _ (by omega)) (Nat.max_le.mpr ⟨f1, f2⟩)) (divInt_den_le (by omega) (by omega)) ht5
  · walk_at "z"
    have f1 : bl (s - 4).natAbs ≤ 21 := bl_small (by omega)
    have f2 : bl (2 + b).natAbs ≤ 21 := bl_small (by omega)
    refine ⟨fun c2 => ?_, fun c2 => ?_⟩
    · walk_at "z"
      exact h (Rat.ofInt (s - 4)) t3 (Nat.max_le.mpr ⟨f1, by show bl 1 ≤ 21; decide⟩) (show 1 ≤ 1000 by decide) (ht3.le (by omega))
    · walk_at "z"
      refine sp_l_part.mk (by omega) (by omega) (by omega) ?_
      walk_at "z"
      exact h _ t3 (Nat.le_trans (divInt_wt _ _ (by omega)) (Nat.max_le.mpr ⟨f1, f2⟩)) (divInt_den_le (by omega) (by omega)) (ht3.le (by omega))
end VL

set_option maxHeartbeats 2000000
namespace VL
open PySem PySem.Spec PyProof.Rows L2
local macro_rules | `(tactic| walk_at "v") => `(tactic| repeat (first | refine ⟨rfl, ?_⟩ | refine ⟨_, rfl, ?_⟩))
local macro_rules | `(tactic| walk_at "y") => `(tactic| refine ⟨fun _ => ?_, fun h => Bool.noConfusion (show true = false from h)⟩)
local macro_rules | `(tactic| walk_at "n") => `(tactic| refine ⟨fun h => Bool.noConfusion (show false = true from h), fun _ => ?_⟩)
local macro_rules | `(tactic| walk_at "ty") => `(tactic| refine ⟨_, rfl, by decide, ?_⟩)
local macro_rules | `(tactic| walk_at "tys") => `(tactic| refine ⟨_, rfl, _, rfl, by decide, ?_⟩)
local macro_rules | `(tactic| walk_at "z") => `(tactic| repeat (first | refine ⟨rfl, ?_⟩ | refine ⟨_, rfl, ?_⟩ | refine ⟨fun _ => ?_, fun h => Bool.noConfusion (show true = false from h)⟩ | refine ⟨fun h => Bool.noConfusion (show false = true from h), fun _ => ?_⟩ | refine ⟨tyIn rfl, ?_⟩ | refine ⟨tysIn rfl, ?_⟩ | refine ⟨smallL rfl, ?_⟩ | refine ⟨smallE rfl, ?_⟩))
end VL

namespace VL
open PySem PySem.Spec PyProof.Rows L2

/-! ### defs that run where no repr is under way -/
theorem deeper_guards {A : Around} {env : Env} : (A.deeper env).guards = A.guards := by first | rfl | simp [Around.deeper]
/-- room, and no repr is under way -/
structure RoomG (k : Nat) (A : Around) : Prop where
  rm : Room k A
  gd : A.guards = some []
/-- the frame that runs is a def's own -/
def FrOk (A : Around) : Prop := ∃ env l, A.frames = some (env :: l) ∧ env.scope.isGenerator = false ∧ env.scope.isCoroutine = false ∧ env.builtins = builtinsNs ∧ env.globals = mainGlobals
theorem RoomG.mono {j k : Nat} {A : Around} (r : RoomG k A) (h : j ≤ k) : RoomG j A := ⟨r.rm.mono h, r.gd⟩
section
variable {P : Program} {w : World} {K : Fg} {mg : Str → Option Value} {base : Heap}
structure GOk (P : Program) (w : World) (K : Fg) (mg : Str → Option Value) (base : Heap) (k : Nat) (f : Addr) (fd : FuncData) (ps : List Str) (sp : Sp) : Prop where
  len : ∀ us H Q E, sp us H Q E → us.length = ps.length
  run : ∀ (A : Around) (st : List Env) (s : Shared) (H : Hp) (args : Args) (cs : List Value) (us : List V) (Q : VK) (E : XK), RoomG k A → Env0 P w K mg base A st s H →
    BindsTo s fd args (ps.zip cs) → Vals us cs → sp us H Q E → codeAny (model P w) A (.call (.ref f) args) (CR CX0 st P w H s Q E) s
theorem GOk.of {k : Nat} {f : Addr} {fd : FuncData} {ps : List Str} {sp : Sp} (F : FnOk P w K mg base CX0 k f fd ps sp) : GOk P w K mg base k f fd ps sp :=
  ⟨F.len, fun A st s H args cs us Q E hr e0 hb hv hs => F.run A st s H args cs us Q E hr.rm e0 hb hv hs⟩
theorem gfn_of {k : Nat} {f : Addr} {nm qual : Str} {prm : Arguments} {body : List Stmt} {sc : Scope} {dV kV doc pm cd ct oc : Value} {an od : Option Addr} {sl : Array (Option Value)} {N ps : List Str} {sp : Sp}
    (lk : K.lookup f = some ⟨oc, od, .func (PySem.W.fnOf nm qual prm body sc dV kV doc pm an cd ct), sl⟩) (hcd : PySem.W.codeIn K cd qual = true) (S : FnScope N ps sc) (len : ∀ us H Q E, sp us H Q E → us.length = ps.length)
    (hbody : ∀ (A : Around) (st : List Env) (s : Shared) (H : Hp) (us : List V) (Q : VK) (E : XK), RoomG k (A.deeper (envOfC qual sc s.heap.objs.size f cd)) → FrOk (A.deeper (envOfC qual sc s.heap.objs.size f cd)) → sp us H Q E →
      ∃ t, PSs (cxOf CX0 P w K mg base N qual sc f cd A st s H E) body t ∧ t { nx := fun _ H1 => Q .non H1, rt := Q } (start N us) H) : GOk P w K mg base (k + 1) f (PySem.W.fnOf nm qual prm body sc dV kV doc pm an cd ct) ps sp := by
  refine ⟨len, ?_⟩
  intro A st s H args cs us Q E hr e0 hb r hsp
  have n1 := len us H Q E hsp
  have same : ∀ b o, base.get? b = some o → s.heap.get? b = some o := fun b o e => (e0.bs b o e).1
  have inK : K.In s.heap := e0.mod.kin.keeps same
  have nolim : s.heap.NoLimit := e0.mod.nolimit.keeps same
  have kinds : ∀ y ∈ ps.zip cs, sc.names.lookup y.1 = some .local ∨ (sc.names.lookup y.1 = some .cell ∧ ((cellsFrom (s.heap.objs.size + 1) sc.names []).lookup y.1).isSome = true) := by
    rintro ⟨y, u⟩ hy
    have hp := S.par y (List.of_mem_zip hy).1
    exact hp.imp id fun q => ⟨q, PySem.W.cellsFrom_some _ _ _ (.inl q)⟩
  refine codeAny_call_function hr.rm.depth (inK _ _ lk) rfl S.co S.gen rfl (PySem.W.codeRec_of inK hcd) (hb _ _ _ _ ?_)
  refine wpAny_newFunctionEnv_cells S.kind kinds ?_
  intro env he s2 x
  subst he
  refine ⟨nolim.keeps x.toInCall.keep, codeAny_func ?_⟩
  obtain ⟨t, ht, tq⟩ := hbody A st s H us Q E ⟨hr.rm.deeper _, by rw [deeper_guards]; exact hr.gd⟩ ⟨_, st, Around.frames_deeper e0.frames, S.gen, S.co, rfl, rfl⟩ hsp
  have J0 := inv_start (CX := CX0) (E := E) S hr.rm.hd e0 n1 r x
  refine wpAny_mono (ht.run [] s2 (start N us) H _ J0 tq) ?_ fun e s3 z => z
  intro fl s3 hs
  cases fl with
  | next =>
    obtain ⟨σ1, H1, J, q⟩ := hs
    exact ⟨V.non, H1, J.os, J.bare, J.base, J.hok, rfl, q⟩
  | ret u =>
    obtain ⟨x1, σ1, H1, J, rv, q⟩ := hs
    exact ⟨x1, H1, J.os, J.bare, J.base, J.hok, rv, q⟩
  | cont => exact (show False from hs.choose_spec.choose_spec.2).elim
  | brk => exact (show False from hs.choose_spec.choose_spec.2).elim
end
section
variable {X : Cx} {e : Expr} {es : List Expr} {p pos : Pos} {k : Nat} {f : Addr} {fd : FuncData} {ps : List Str} {x : Str}
theorem pe_gcall {sp : Sp} {t : TA} (F : GOk X.prog X.w X.K X.mg X.base k f fd ps sp) (hr : RoomG k X.A) (hg : Gl X x) (hm : X.mg x = some (.ref f)) (hk : PySem.W.keepIn X.K (.ref f) = true) (hb : Binds X.K fd ps []) (ha : PA X (e :: es) t)
    (hdb : (x == ("__debug__" : Str)) = false := by decide) (he : starEach (e :: es) X.env = (false, eval e X.env) :: starEach es X.env := by rfl) (hpl : (backTo pos (starEach es X.env)).any (·.1) = false := by rfl) :
    PE X (.Call (.Name x p) (e :: es) [] pos) (tCall sp [] E0 t) := by
  constructor
  intro pins s σ H Q I h
  refine wpAny_Call_Name_kw (ld_glob I hg hm ?_ hdb)
  refine PySem.W.callWith_K (h₀ := X.base) I.ok.mod.kin hk (thn (ha.run pos pins s σ H _ I h) ?_) he hpl
  rintro cs s2 ⟨us, H2, I2, rv, hs⟩
  refine ⟨I2.kIn, ?_⟩
  rw [List.append_nil] at hs
  have hn : (cs ++ []).length = ps.length := by rw [List.append_nil, ← rv.length]; exact F.len _ _ _ _ hs
  have hbt := hb s2 cs I2.kIn hn
  rw [List.append_nil] at hbt
  refine wpAny_call (codeAny_mono (F.run X.A X.stack s2 H2 ⟨cs, []⟩ cs us Q E0 hr I2.env0 hbt rv hs) ?_)
  intro r s3 hq
  cases r with
  | ok fl =>
    cases fl with
    | ret u => exact I2.after hq
    | _ => exact (show False from hq).elim
  | error z => exact (show False from hq).elim
end
end VL

namespace VL
open PySem PySem.Spec PyProof.Rows L2

section
variable {P : Program} {w : World} {K : Fg} {mg : Str → Option Value} {base : Heap}
theorem fun_gok {x qual : Str} {st : Stmt} {f : Addr} {fd : FuncData} {N ps : List Str} {k : Nat} {sp : Sp} (F : Fun K x qual st f fd) (S : FnScope N ps (defScope st)) (len : ∀ us H Q E, sp us H Q E → us.length = ps.length)
    (hbody : ∀ (cd : Value) (A : Around) (o : List Env) (s : Shared) (H : Hp) (us : List V) (Q : VK) (E : XK), RoomG k (A.deeper (envOfC qual (defScope st) s.heap.objs.size f cd)) → FrOk (A.deeper (envOfC qual (defScope st) s.heap.objs.size f cd)) → sp us H Q E →
      ∃ t, PSs (cxOf CX0 P w K mg base N qual (defScope st) f cd A o s H E).nox (defBody st) t ∧ t { nx := fun _ H1 => Q .non H1, rt := Q } (start N us) H) : GOk P w K mg base (k + 1) f fd ps sp := by
  obtain ⟨oc, od, kV, doc, pm, an, cd, ct, sl, rfl, lk, hcd⟩ := F.ex
  refine gfn_of lk hcd S len ?_
  intro A o s H us Q E hr hP hs
  obtain ⟨t, ht, q⟩ := hbody cd A o s H us Q E hr hP hs
  exact ⟨t, ht.nox, q⟩
theorem fn_g {x qual : Str} {st : Stmt} {f : Addr} {fd : FuncData} {N ps : List Str} {k : Nat} {sp : ASp} {ios : List Bool} {r : RS} (Fn : Fun K x qual st f fd) (Sc : FnScope N ps (defScope st)) (hl : ios.length = ps.length)
    (hb : ∀ (cdv : Value) (A : Around) (outer : List Env) (s : Shared) (H : Hp) (E : XK), RoomG k (A.deeper (envOfC qual (defScope st) s.heap.objs.size f cdv)) → FrOk (A.deeper (envOfC qual (defScope st) s.heap.objs.size f cdv)) → VSs (cxOf CX0 P w K mg base N qual (defScope st) f cdv A outer s H E).nox (defBody st) r)
    (hr : ∀ ds R, ds.length = ios.length → sp ds R → r (rho0 ios 0 ds ++ List.replicate (N.length - ios.length) .no) (endsOf ios R)) : GOk P w K mg base (k + 1) f fd ps (liftSp K ios sp) := by
  have hpl : ps.length ≤ N.length := by have := congrArg List.length Sc.pre; rw [List.length_take] at this; omega
  refine fun_gok Fn Sc (fun vs H Q E ⟨F, ds, io, R, _, ha, _⟩ => ha.len.1.trans hl) (fun cdv A outer s H vs Q E hrm hP ⟨F, ds, io, R, sb, ha, nd, fr, hsp, fin⟩ => ?_)
  refine ⟨_, hb cdv A outer s H E hrm hP, ?_⟩
  have h0 := sr_start (n := N.length - ios.length) sb ha nd fr N rfl (by omega)
  have done : ∀ (σ' : L2.St) (H' F' : Hp) (ρ' : Ev) (v : V) (d : D) (k : Nat) (tm : List (Addr × HO)) (outs : List D), SR K ⟨H, F, io⟩ F' H' σ' ρ' (tm ++ []) → OwnR K F' H' k d v (tm.map (·.1)) → outsOf ios 0 ρ' = some outs → R d k outs → Q v H' := by
    intro σ' H' F' ρ' v d k tm outs ⟨fps, h⟩ ow eo q
    obtain ⟨lo, go⟩ := outs_get eo
    refine fin v H' ⟨F', d, k, tm.map (·.1), outs, h.f0, h.sub, h.fnew, h.keep, fun a na z => na (h.live a z), ow, ?_, fun a ha => ?_, ⟨lo.trans ha.ioLen.symm, fun j a ej => ?_⟩, q⟩
    · have := h.ndT
      rw [List.append_nil] at this
      exact this
    · obtain ⟨t, ht, e⟩ := List.mem_map.mp ha
      subst e
      obtain ⟨z1, z2, z3⟩ := h.freeT t (List.mem_append_left _ ht)
      exact ⟨z1, z2, by rw [z3]; simp⟩
    · have hj : j < outs.length := by
        rw [lo, ← ha.ioLen]
        exact (List.getElem?_eq_some_iff.mp ej).1
      obtain ⟨i, ei⟩ := go j outs[j] (List.getElem?_eq_getElem hj)
      rw [Nat.zero_add] at ei
      obtain ⟨a', e1, e2, e3, o⟩ := h.slot i _ ei
      have e2' : io[j]? = some a' := e2
      rw [ej] at e2'
      cases e2'
      exact ⟨outs[j], List.getElem?_eq_getElem hj, o⟩
  refine ⟨⟨H, F, io⟩, F, _, endsOf ios R, h0, hr ds R ha.len.2 hsp, ⟨fun σ' H' ⟨F', ρ', s', h', outs, eo, q⟩ => ?_, fun v H' ⟨σ', F', ρ', d, k, tm, s', h', ow, outs, eo, q⟩ => ?_, fun _ _ ⟨_, _, _, _, q⟩ => q, fun _ _ ⟨_, _, _, _, q⟩ => q⟩⟩
  · exact done σ' H' F' ρ' .non .non 0 [] outs h' ⟨rfl, rfl⟩ eo q
  · exact done σ' H' F' ρ' v d k tm outs h' ow eo q
end
theorem ve_gcall {X : Cx} {e : Expr} {es : List Expr} {p pos : Pos} {k : Nat} {f : Addr} {fd : FuncData} {ps : List Str} {ios : List Bool} {sp : ASp} {rg : RAg} {x : Str} (G : GOk X.prog X.w X.K X.mg X.base k f fd ps (liftSp X.K ios sp)) (hr : RoomG k X.A) (hg : Gl X x) (hm : X.mg x = some (.ref f)) (hk : PySem.W.keepIn X.K (.ref f) = true) (hb : Binds X.K fd ps []) (ha : VAg X (e :: es) rg)
    (hdb : (x == ("__debug__" : Str)) = false := by decide) (he : starEach (e :: es) X.env = (false, eval e X.env) :: starEach es X.env := by rfl) (hpl : (backTo pos (starEach es X.env)).any (·.1) = false := by rfl) : VE X (.Call (.Name x p) (e :: es) [] pos) (rCall ios sp rg) :=
  PE.weak (pe_gcall G hr hg hm hk hb ha hdb he hpl) fun σ H Q q => tCall.of σ H Q q

/-! ### the end of a law's row -/
structure HasSys (P : Program) (base : Heap) : Prop where
  seer : base.NoSeer
  tree : P.given.tree = none
theorem ns_obj {h : Heap} {c : Addr} {m : Str → Option Value} (x : h.Ns c m) : ∃ o es ep, h.get? c = some o ∧ o.data = .dict es ep := let ⟨o, es, ep, z, d, _⟩ := x; ⟨o, es, ep, z, d⟩
theorem law_gcall {P : Program} {w : World} {K : Fg} {mg mb : Str → Option Value} {k : Nat} {fa a : Addr} {fd : FuncData} {x : Str} {sp : Sp} {s1 : Shared} {cs : List Value} {ns : List Int}
    (KX : K.In s1.heap) (hns : s1.heap.Ns mainGlobals mg) (hB : s1.heap.Ns builtinsNs mb) (hbb : ∀ y : Str, y ≠ "__name__" → mb y = bootBuiltins y) (hlim : s1.heap.NoLimit) (hg : s1.gens = #[])
    (ha : s1.heap.get? a = some { cls := .type "list", data := .seq cs.toArray }) (hi : IntsAre cs ns) (hl : ns.length ≤ sizeLine) (hr : RoomG k callerA)
    (hsys : HasSys P s1.heap) (F : ∀ base : Heap, K.In base → base.Ns mainGlobals mg → HasSys P base → GOk P w K mg base k fa fd [x] sp) (hbind : ∀ (s : Shared) (u : Value), BindsTo s fd ⟨[u], []⟩ [(x, u)])
    (hsp : ∀ H : Hp, Only H → SqL K H a (ns.map V.int) → sp [.ref a] H (fun v _ => v = .bl true) E0) :
    codeAny (model P w) callerA (.call (.ref fa) ⟨[.ref a], []⟩) (fun r s' => r = .ok (.ret (.bool true)) ∧ OldK s1.heap s'.heap ∧ s'.os = s1.os ∧ AllBare s'.gens) s1 := by
  have rv := vals_ints hi
  have lenV := hi.length
  have core : ∀ H : Hp, Only H → SqL K H a (ns.map V.int) → HOk P w H s1.heap → (∀ c, H c ≠ none → c = a) → (H a ≠ none → K.lookup a = none) →
      codeAny (model P w) callerA (.call (.ref fa) ⟨[.ref a], []⟩) (fun r s' => r = .ok (.ret (.bool true)) ∧ OldK s1.heap s'.heap ∧ s'.os = s1.os ∧ AllBare s'.gens) s1 := by
    intro H hO hS hok hA hK
    have isA : ∀ {c : Addr} {u : HO}, H c = some u → c = a := fun {c u} q => hA c (by rw [q]; exact nofun)
    have stay : ∀ {c : Addr} {o : Obj}, s1.heap.get? c = some o → H c = none → (hidT s1.heap H).get? c = some o := fun z n => hidT_get z n
    have notA : ∀ {c : Addr} {o : Obj} {es : Array DictEntry} {ep : Nat}, s1.heap.get? c = some o → o.data = .dict es ep → H c = none := by
      intro c o es ep z d
      cases q : H c with
      | none => rfl
      | some u =>
        obtain rfl := isA q
        rw [ha] at z
        cases z
        exact nomatch (show Data.seq cs.toArray _ = Data.dict es ep from d)
    have nsK : ∀ {c : Addr} {m : Str → Option Value}, s1.heap.Ns c m → (hidT s1.heap H).Ns c m := fun {c m} ⟨o, es, ep, z, d, r⟩ => ⟨o, es, ep, stay z (notA z d), d, r⟩
    have inK : K.In (hidT s1.heap H) := by
      intro c o z
      refine stay (KX c o z) ?_
      cases q : H c with
      | none => rfl
      | some u =>
        obtain rfl := isA q
        rw [hK (by rw [q]; exact nofun)] at z
        cases z
    have hsysK : HasSys P (hidT s1.heap H) := by
      refine ⟨⟨hsys.seer.statics.elim fun m z => ⟨m, nsK z.1, z.2⟩, hsys.seer.mods.elim fun m z => ⟨m, nsK z.1, z.2⟩, hsys.seer.imp.elim fun m z => ⟨m, nsK z.1, z.2⟩, ?_⟩, hsys.tree⟩
      obtain ⟨m, bm, ob, z1, z2, z3, z4, z5⟩ := hsys.seer.main
      refine ⟨m, bm, ob, nsK z1, z2, stay z3 ?_, z4, z5⟩
      cases q : H bm with
      | none => rfl
      | some u =>
        obtain rfl := isA q
        rw [ha] at z3
        cases z3
        exact absurd (show Value.type "list" = Value.type "module" from z4) (by decide)
    obtain ⟨mc, l1, l2⟩ := hlim
    have hM : Mod K mg (hidT s1.heap H) := ⟨inK, nsK hns, ⟨mb, nsK hB, hbb⟩, ⟨mc, nsK l1, l2⟩⟩
    have e0 : Env0 P w K mg (hidT s1.heap H) callerA [] s1 H := ⟨rfl, hM, fun c o z => of_hidT z, Nat.le_of_eq (hidT_size _ _), trivial, (fun c hc => absurd (show c ∈ ([] : List Addr) from hc) List.not_mem_nil), hok, .of_eq hg⟩
    refine codeAny_mono ((F _ inK (nsK hns) hsysK).run callerA [] s1 H ⟨[.ref a], []⟩ [.ref a] [.ref a] _ _ hr e0 (hbind s1 (.ref a)) (.cons rfl .nil) (hsp H hO hS)) ?_
    intro r s2 h
    cases r with
    | error z => exact (show False from h).elim
    | ok fl =>
      cases fl with
      | ret u =>
        obtain ⟨v, H2, os, bare, un, hok2, rv2, rfl⟩ := h
        obtain rfl : u = Value.bool true := rv2
        refine ⟨rfl, OldK.of_keep ?_, os, bare⟩
        intro c o z
        cases q : H c with
        | none => exact un.keep c o z q (fun m => absurd (show c ∈ ([] : List Addr) from m) List.not_mem_nil) List.not_mem_nil
        | some u =>
          rcases hO c with m | ⟨ob, xs, m⟩
          · rw [q] at m; cases m
          · obtain ⟨z1, _⟩ := hok c _ m
            obtain ⟨z2, _⟩ := hok2 c _ (un.frzs c ob _ m)
            rw [z] at z1
            cases z1
            exact z2
      | _ => exact (show False from h).elim
  cases hk : K.lookup a with
  | some o =>
    have z := KX a o hk
    rw [ha] at z
    cases z
    exact core (fun _ => none) (fun _ => .inl rfl) (.inr ⟨_, cs.toArray, _, hk, rfl, rfl, rfl, by rw [List.size_toArray, lenV]; exact hl, by simpa using rv⟩) (fun c u m => nomatch (show (none : Option HO) = some u from m)) (fun c m => absurd rfl m) fun m => absurd rfl m
  | none =>
    have at1 : ∀ c, c = a → (if c = a then some (HO.frz { cls := .type "list", data := .seq cs.toArray } (.lst (ns.map V.int))) else none) = some (HO.frz { cls := .type "list", data := .seq cs.toArray } (.lst (ns.map V.int))) := fun c e => if_pos e
    have at0 : ∀ c, ¬ c = a → (if c = a then some (HO.frz { cls := .type "list", data := .seq cs.toArray } (.lst (ns.map V.int))) else none) = none := fun c e => if_neg e
    refine core (fun c => if c = a then some (.frz { cls := .type "list", data := .seq cs.toArray } (.lst (ns.map V.int))) else none) (fun c => ?_) (.inl (.inr ⟨_, at1 a rfl⟩)) (fun c u m => ?_) (fun c m => ?_) (fun _ => hk)
    · by_cases q : c = a
      · exact .inr ⟨_, _, at1 c q⟩
      · exact .inl (at0 c q)
    · by_cases q : c = a
      · cases (at1 c q).symm.trans m
        subst q
        exact ⟨ha, by rw [List.length_map]; exact hl, cs, _, rv, ha⟩
      · cases (at0 c q).symm.trans m
    · by_cases q : c = a
      · exact q
      · exact absurd (at0 c q) m
theorem walk_g {l : PySem.W.OpenLaw} {n k : Nat} {q : Program} {loose : List Str} {XP : (Str → Option Value) → Heap → Prop} {YP : World → Heap → Prop} {d : DefRec} {KK : Params → Fg} {sp : Fg → Sp} {x : Str}
    (hn : l.most = some n) (hn2 : n ≤ sizeLine) (hdf : d.params.defaults = []) (hr : RoomG k callerA) (hT : l.prog.given.tree = none) (hY : ∀ (w : World) (h : Heap), YP w h → (KK w.params).In h) (hi : PyProof.Rows.importsNone q = true)
    (F : ∀ (w : World) (mg : Str → Option Value) (fa : Addr) (h : Heap), (KK w.params).In h → h.Ns mainGlobals mg → mg d.name = some (.ref fa) →
      ∃ fd : FuncData, (∀ (s : Shared) (u : Value), BindsTo s fd ⟨[u], []⟩ [(x, u)]) ∧ ∀ base : Heap, (KK w.params).In base → base.Ns mainGlobals mg → HasSys l.prog base → GOk l.prog w (KK w.params) mg base k fa fd [x] (sp (KK w.params)))
    (hsp : ∀ (K : Fg) (H : Hp) (a : Addr) (ns : List Int), ns.length ≤ n → (∀ z ∈ ns, Builtin.Int.intBits z ≤ 1048576) → SqL K H a (ns.map V.int) → sp K [.ref a] H (fun v _ => v = .bl true) E0) :
    PySem.W.WalkO q loose XP YP l.row.toRowW d [] (fun f vs => PySem.call f vs) := by
  refine Att.attach_callB hn hdf ?_
  intro w s0 s1 mg mb fa o pm cd doc a vs ns G Y ho hd hcd hmg hobj hints hlen hbits hg
  have KX := hY w _ Y
  obtain ⟨fd, hb, hF⟩ := F w mg fa _ KX G.T.g hmg
  exact law_gcall KX G.T.g G.T.b G.T.builtins G.T.nolimit hg hobj hints (Nat.le_trans hlen hn2) hr ⟨G.T.seer hi, hT⟩ hF hb (fun H _ hS => hsp _ H a ns hlen hbits hS)
end VL

namespace VL
open PySem PySem.Spec PyProof.Rows L2

/-! ### // by any number but nought -/
section
variable {X : Cx} {a b : Expr} {pos : Pos} {k : Nat}
theorem pylong_room {pins : List (Addr × Obj)} {s : Shared} {σ : L2.St} {H : Hp} (I : Inv X pins σ H s) (hr : RoomG k X.A) (hk : 32 ≤ k) (hP : FrOk X.A) (hB : HasSys X.prog X.base) : PylongRoom (model X.prog X.w) X.A s := by
  obtain ⟨env, l, h1, h2, h3, h4, h5⟩ := hP
  refine PylongRoom.of I.nolimit ?_ (SeerAt.of (hB.seer.keeps I.bk) hB.tree h1 h2 h3 h4 h5)
  have := hr.rm.dp
  show X.A.depth + 100 < _
  omega
theorem op_fdivV (hr : RoomG k X.A) (hk : 32 ≤ k) (hP : FrOk X.A) (hB : HasSys X.prog X.base) : OpR X (binaryOp .FloorDiv) (rI FdOk fun i j => .int (i.fdiv j)) := by
  intro pins s σ H x y v u Q I rx ry h
  obtain ⟨i, j, rfl, rfl, hc, q⟩ := h
  obtain ⟨t, rfl⟩ := rx
  obtain ⟨t', rfl⟩ := ry
  exact floordiv_int hc ⟨.int (i.fdiv j), H, I.tok _, ⟨_, rfl⟩, q⟩ (.inr (pylong_room I hr hk hP hB))
theorem ve_fd {ra rb : RO} (hr : RoomG k X.A) (hk : 32 ≤ k) (hP : FrOk X.A) (hB : HasSys X.prog X.base) (ha : VO X a ra) (hb : VO X b rb) : VE X (.BinOp a .FloorDiv b pos) (rOp2 gFd ra rb) := ve_op (op_fdivV hr hk hP hB) lk_fd ha hb
end
end VL

namespace VL
open PySem PySem.Spec PyProof.Rows L2

/-! ### a list and the empty one -/
def rEqN (K : Fg) : R2 := fun x y H Q => ∃ a b xs, x = .ref a ∧ y = .ref b ∧ SqL K H a xs ∧ SqL K H b [] ∧ Q (.bl xs.isEmpty) H
def rNeN (K : Fg) : R2 := fun x y H Q => ∃ a b xs, x = .ref a ∧ y = .ref b ∧ SqL K H a xs ∧ SqL K H b [] ∧ Q (.bl (!xs.isEmpty)) H
section
variable {X : Cx}
theorem op_eqN (hu : X.A.units + 64 < cLine) : OpR X (compareOp .Eq) (rEqN X.K) := by
  intro pins s σ H x y v u Q I rx ry h
  obtain ⟨a, b, xs, rfl, rfl, ha, hb, q⟩ := h
  obtain rfl : v = Value.ref a := rx
  obtain rfl : u = Value.ref b := ry
  obtain ⟨us, r1, p1, _⟩ := I.list ha
  obtain ⟨ws, r2, p2, _⟩ := I.list hb
  cases r2
  cases xs with
  | nil =>
    cases r1
    refine SeqAt.eq_listAt (e := fun _ => true) p1.isList p2.isList rfl (by omega) (fun j h1 => absurd h1 (Nat.not_lt_zero j)) ?_
    exact ⟨.bl true, H, I, rfl, q⟩
  | cons x xs =>
    cases r1 with
    | cons a1 b1 => exact SeqAt.eq_list_lengthsAt p1.isList p2.isList (by simp) (by omega) ⟨.bl false, H, I, rfl, q⟩
theorem op_neN (hu : X.A.units + 64 < cLine) : OpR X (compareOp .NotEq) (rNeN X.K) := by
  intro pins s σ H x y v u Q I rx ry h
  obtain ⟨a, b, xs, rfl, rfl, ha, hb, q⟩ := h
  obtain rfl : v = Value.ref a := rx
  obtain rfl : u = Value.ref b := ry
  obtain ⟨us, r1, p1, _⟩ := I.list ha
  obtain ⟨ws, r2, p2, _⟩ := I.list hb
  cases r2
  cases xs with
  | nil =>
    cases r1
    refine SeqAt.RcNeAt.lists (e := fun _ => true) p1.isList p2.isList rfl (by omega) (fun j h1 => absurd h1 (Nat.not_lt_zero j)) _ _ _ _ ?_
    exact ⟨.bl false, H, I, rfl, q⟩
  | cons x xs =>
    cases r1 with
    | cons a1 b1 => exact SeqAt.RcNeAt.lists_lengths p1.isList p2.isList (by simp) (by omega) _ _ _ _ ⟨.bl true, H, I, rfl, q⟩
end
def gEqN : G2 := fun a b R => match a, b with
  | .lst xs, .lst [] => R (.bl xs.isEmpty) 0
  | _, _ => False
def gNeN : G2 := fun a b R => match a, b with
  | .lst xs, .lst [] => R (.bl (!xs.isEmpty)) 0
  | _, _ => False
theorem reps_empty {K : Fg} {F : Hp} : ∀ {ds : List D} {vs : List V}, Reps K F ds vs → vs.isEmpty = ds.isEmpty
  | [], _, h => by cases h; rfl
  | _ :: _, _, ⟨_, _, e, _, _⟩ => by subst e; rfl
theorem lk_eqN {K : Fg} : Lk2 K (rEqN K) gEqN := fun F H a b x y R Q' s h1 h2 g w => by
  cases a <;> first | exact g.elim | skip
  cases b <;> first | exact g.elim | skip
  rename_i xs ys
  cases ys with
  | cons y ys => exact g.elim
  | nil =>
    obtain ⟨p, vs, e1, k1, r1⟩ := h1
    obtain ⟨p2, vs2, e2, k2, r2⟩ := h2
    cases r2
    exact ⟨p, p2, vs, e1, e2, .inl (.inl k1), .inl (.inl k2), by rw [reps_empty r1]; exact w _ _ _ _ .bl g⟩
theorem lk_neN {K : Fg} : Lk2 K (rNeN K) gNeN := fun F H a b x y R Q' s h1 h2 g w => by
  cases a <;> first | exact g.elim | skip
  cases b <;> first | exact g.elim | skip
  rename_i xs ys
  cases ys with
  | cons y ys => exact g.elim
  | nil =>
    obtain ⟨p, vs, e1, k1, r1⟩ := h1
    obtain ⟨p2, vs2, e2, k2, r2⟩ := h2
    cases r2
    exact ⟨p, p2, vs, e1, e2, .inl (.inl k1), .inl (.inl k2), by rw [reps_empty r1]; exact w _ _ _ _ .bl g⟩
/-! ### a row so many times -/
def gRep : G2 := fun a b R => match a, b with
  | .lst xs, .int k => -(2 ^ 62) ≤ k ∧ k < 2 ^ 62 ∧ xs.length * k.toNat ≤ 1000 ∧ R (.lst (List.replicate k.toNat xs).flatten) 1
  | .tup xs, .int k => xs ≠ [] ∧ 2 ≤ k ∧ k ≤ 1000 ∧ xs.length ≤ 1000 ∧ R (.tup (List.replicate k.toNat xs).flatten) 0
  | _, _ => False
theorem Reps.app {K : Fg} {F : Hp} : ∀ {ds es : List D} {vs us : List V}, Reps K F ds vs → Reps K F es us → Reps K F (ds ++ es) (vs ++ us)
  | [], _, _, _, h, h2 => by cases h; exact h2
  | d :: ds, es, _, us, ⟨v, r, e, h, t⟩, h2 => by subst e; exact ⟨v, r ++ us, rfl, h, Reps.app t h2⟩
theorem reps_rep {K : Fg} {F : Hp} {ds : List D} {vs : List V} (h : Reps K F ds vs) : ∀ n, Reps K F (List.replicate n ds).flatten (List.replicate n vs).flatten
  | 0 => rfl
  | n + 1 => by
    rw [List.replicate_succ, List.replicate_succ, List.flatten_cons, List.flatten_cons]
    exact Reps.app h (reps_rep h n)
def tRep (K : Fg) : R2 := fun x y H Q => rRep x y H Q ∨ rRepT K x y H Q
theorem lk_rep {K : Fg} : Lk2 K (tRep K) gRep := fun F H a b x y R Q' s h1 h2 g w => by
  cases a <;> first | exact g.elim | skip
  · cases b <;> first | exact g.elim | skip
    cases h2
    obtain ⟨p, vs, e1, k1, r1⟩ := h1
    obtain ⟨g1, g2, g3, g4, g⟩ := g
    refine .inr ⟨p, _, vs, e1, rfl, k1.sq s, fun z => g1 ?_, g2, g3, by rw [r1.length]; exact g4, fun q hq => w _ _ _ _ (.tup hq (reps_rep r1 _)) g⟩
    subst z
    cases hx : (‹List D›) with
    | nil => rfl
    | cons d ds =>
      rw [hx] at r1
      obtain ⟨_, _, e, _⟩ := r1
      cases e
  · cases b <;> first | exact g.elim | skip
    cases h2
    obtain ⟨p, vs, e1, k1, r1⟩ := h1
    obtain ⟨g1, g2, g3, g⟩ := g
    exact .inl ⟨p, _, vs, e1, rfl, k1, by omega, by omega, by rw [r1.length]; exact Nat.le_trans g3 (by decide), fun q hq => w _ _ _ _ (.lst hq (reps_rep r1 _)) g⟩
theorem ve_rep {X : Cx} {a b : Expr} {pos : Pos} {ra rb : RO} (ha : VO X a ra) (hb : VO X b rb) : VE X (.BinOp a .Mult b pos) (rOp2 gRep ra rb) := ve_op (op_rep.or op_repT) lk_rep ha hb
end VL

namespace VL
open PySem PySem.Spec PyProof.Rows L2

/-! ### repr and str of rows -/
mutual
def D.px : D → PyData
  | .non => .none
  | .bl b => .bool b
  | .int i => .int i
  | .str x => .str x
  | .opq _ => .none
  | .scr _ => .none
  | .pdc _ _ => .none
  | .tup ds => .tuple (D.pxs ds)
  | .lst ds => .list (D.pxs ds)
  | .dct _ _ => .dict []
  | .exc _ _ _ => .none
def D.pxs : List D → List PyData
  | [] => []
  | d :: ds => d.px :: D.pxs ds
end
theorem shown_sz {B : Nat} : ∀ {m : Nat} {d : D}, d.dat B m → d.px.shown.length ≤ d.sz := by
  have hints : ∀ i : Int, ((D.int i).px.shown).length ≤ (D.int i).sz := fun i => by
    have e := int_text_length_le (a := i) (k := bl i.natAbs + 1) (Nat.succ_pos _) (Nat.lt_succ_of_le (log_bl _))
    show (Str.ofString (toString i)).length ≤ bl i.natAbs + 3
    rw [PySem.ofString_length]
    omega
  have bls : ∀ b : Bool, ((D.bl b).px.shown).length ≤ (D.bl b).sz := fun b => by cases b <;> decide
  intro m
  induction m with
  | zero =>
    intro d h
    cases d with
    | int i => exact hints i
    | bl b => exact bls b
    | non => decide
    | str x => exact Nat.le_refl _
    | dct ks vs => show (PyData.shown (.dict [])).length ≤ 3; decide
    | _ => exact absurd h Bool.false_ne_true
  | succ m ih =>
    have all : ∀ ds : List D, (∀ d ∈ ds, d.dat B m) → ((PyData.shownAll (D.pxs ds)).map (·.length)).sum + 2 * (PyData.shownAll (D.pxs ds)).length ≤ D.szs ds := by
      intro ds
      induction ds with
      | nil => exact fun _ => Nat.le_refl _
      | cons d ds ih2 =>
        intro h
        have h1 := ih (h d (by simp))
        have h2 := ih2 fun e he => h e (by simp [he])
        show ((PyData.shown d.px :: PyData.shownAll (D.pxs ds)).map (·.length)).sum + 2 * (PyData.shown d.px :: PyData.shownAll (D.pxs ds)).length ≤ d.sz + 2 + D.szs ds
        rw [List.map_cons, List.sum_cons, List.length_cons]
        omega
    intro d h
    cases d with
    | int i => exact hints i
    | bl b => exact bls b
    | non => decide
    | str x => exact Nat.le_refl _
    | dct ks vs => show (PyData.shown (.dict [])).length ≤ 3; decide
    | tup ds =>
      have h1 := all ds (dat_tup.mp h).2
      have h2 := tupleText_len_le (PyData.shownAll (D.pxs ds))
      show (tupleText (PyData.shownAll (D.pxs ds))).length ≤ D.szs ds + 3
      omega
    | lst ds =>
      have h1 := all ds (dat_lst.mp h).2
      have h2 := listText_len_le (PyData.shownAll (D.pxs ds))
      show (listText (PyData.shownAll (D.pxs ds))).length ≤ D.szs ds + 3
      omega
    | opq v => exact absurd h Bool.false_ne_true
    | scr v => exact absurd h Bool.false_ne_true
    | pdc _ _ => exact absurd h Bool.false_ne_true
    | exc _ _ _ => exact absurd h Bool.false_ne_true
theorem showable_dat {B : Nat} (hB : B ≤ 1900) : ∀ {m : Nat} {d : D}, d.dat B m → d.px.showable = true ∧ d.px.depth ≤ m + 1 := by
  have hints : ∀ i : Int, bl i.natAbs ≤ B → (D.int i).px.showable = true := fun i h => by
    have := log_bl i.natAbs
    exact decide_eq_true (by omega)
  intro m
  induction m with
  | zero =>
    intro d h
    cases d with
    | int i => exact ⟨hints i (dat_int.mp h), Nat.zero_le _⟩
    | bl b => exact ⟨rfl, Nat.zero_le _⟩
    | non => exact ⟨rfl, Nat.zero_le _⟩
    | str x => exact ⟨rfl, Nat.zero_le _⟩
    | dct ks vs => exact ⟨rfl, Nat.le_refl _⟩
    | _ => exact absurd h Bool.false_ne_true
  | succ m ih =>
    have all : ∀ ds : List D, (∀ d ∈ ds, d.dat B m) → PyData.showableAll (D.pxs ds) = true ∧ PyData.depthAll (D.pxs ds) ≤ m + 1 := by
      intro ds
      induction ds with
      | nil => exact fun _ => ⟨rfl, Nat.zero_le _⟩
      | cons d ds ih2 =>
        intro h
        have h1 := ih (h d (by simp))
        have h2 := ih2 fun e he => h e (by simp [he])
        refine ⟨?_, ?_⟩
        · show (PyData.showable d.px && PyData.showableAll (D.pxs ds)) = true
          rw [h1.1, h2.1]; rfl
        · show max d.px.depth (PyData.depthAll (D.pxs ds)) ≤ m + 1
          exact Nat.max_le.mpr ⟨h1.2, h2.2⟩
    intro d h
    cases d with
    | int i => exact ⟨hints i (dat_int.mp h), Nat.zero_le _⟩
    | bl b => exact ⟨rfl, Nat.zero_le _⟩
    | non => exact ⟨rfl, Nat.zero_le _⟩
    | str x => exact ⟨rfl, Nat.zero_le _⟩
    | dct ks vs => exact ⟨rfl, Nat.succ_le_succ (Nat.zero_le _)⟩
    | tup ds =>
      have h1 := all ds (dat_tup.mp h).2
      refine ⟨h1.1, ?_⟩
      show PyData.depth (.tuple (D.pxs ds)) ≤ _
      unfold PyData.depth
      omega
    | lst ds =>
      have h1 := all ds (dat_lst.mp h).2
      refine ⟨h1.1, ?_⟩
      show PyData.depth (.list (D.pxs ds)) ≤ _
      unfold PyData.depth
      omega
    | opq v => exact absurd h Bool.false_ne_true
    | scr v => exact absurd h Bool.false_ne_true
    | pdc _ _ => exact absurd h Bool.false_ne_true
    | exc _ _ _ => exact absurd h Bool.false_ne_true

section
variable {X : Cx} {pins : List (Addr × Obj)} {σ : L2.St} {F H : Hp} {s : Shared}
theorem sys_none (I : Inv X pins σ H s) (hB : HasSys X.prog X.base) : H sysModules = none := by
  obtain ⟨mm, q, _⟩ := hB.seer.mods
  obtain ⟨o, es, ep, e, _⟩ := ns_obj q
  exact (I.bs _ _ e).2
theorem ne_sys (I : Inv X pins σ H s) (hB : HasSys X.prog X.base) {p : Addr} {u : HO} (h : H p = some u) : sysModules ≠ p := fun e => by
  have := sys_none I hB
  rw [e, h] at this
  cases this
theorem lst_reads (I : Inv X pins σ H s) (hB : HasSys X.prog X.base) {p : Addr} {vs : List V} {ds : List D} (h : H p = some (.lst vs)) (ih : ∀ us, Vals vs us → ∃ as, ReadsAll s.heap us (D.pxs ds) as ∧ sysModules ∉ as) : ∃ as, Reads s.heap (.ref p) (.list (D.pxs ds)) as ∧ sysModules ∉ as := by
  obtain ⟨its, rv, ⟨o, n, ho, hc, _, hd⟩, _⟩ := I.list (.inl (.inl h))
  obtain ⟨as, h1, h2⟩ := ih its rv
  refine ⟨_, Reads.list ho hc hd h1, fun z => ?_⟩
  rcases List.mem_cons.mp z with z | z
  · exact ne_sys I hB h z
  · exact h2 z
theorem tup_reads (I : Inv X pins σ H s) {p : Addr} {vs : List V} {ds : List D} (h : SqT X.K H p vs) (ih : ∀ us, Vals vs us → ∃ as, ReadsAll s.heap us (D.pxs ds) as ∧ sysModules ∉ as) : ∃ as, Reads s.heap (.ref p) (.tuple (D.pxs ds)) as ∧ sysModules ∉ as := by
  obtain ⟨its, rv, ⟨o, ho, hc, n, hd⟩, _⟩ := I.tuple h
  obtain ⟨as, h1, h2⟩ := ih its rv
  exact ⟨_, Reads.tuple ho hc hd h1, h2⟩
theorem dct_reads (I : Inv X pins σ H s) (hB : HasSys X.prog X.base) {p : Addr} {vs : List V} (h : DctAt H p [] vs) : ∃ as, Reads s.heap (.ref p) (.dict []) as ∧ sysModules ∉ as := by
  have key : ∀ {o : Obj} {es : Array DictEntry} {ep : Nat}, s.heap.get? p = some o → o.ExactDict → o.data = .dict es ep → es.toList = [] → sysModules ≠ p → ∃ as, Reads s.heap (.ref p) (.dict []) as ∧ sysModules ∉ as := by
    intro o es ep ho hx hd he hp
    refine ⟨_, Reads.dict (kvs := []) (as := []) (bs := []) ho hx.1 hd ?_ ?_, ?_⟩
    · rw [he]; exact .nil
    · rw [he]; exact .nil
    · intro z
      simp at z
      exact hp z
  rcases h with ⟨l, h, e, _⟩ | ⟨l, h, hn, e, _⟩
  · obtain rfl : l = [] := List.map_eq_nil_iff.mp e.symm
    obtain ⟨_, _, vs', rel, o, es, ep, ho, hx, hd, _, pr, _⟩ := dk_of I.hok h
    cases rel
    cases hes : es.toList with
    | nil => exact key ho hx hd hes (ne_sys I hB h)
    | cons a b => rw [hes] at pr; cases pr
  · exact absurd (List.map_eq_nil_iff.mp e.symm) hn
theorem rep_reads (I : Inv X pins σ H s) (hB : HasSys X.prog X.base) (sF : Same F H) {B : Nat} : ∀ {m : Nat} {d : D} {v : V} {u : Value}, d.dat B m → Rep X.K F d v → RelV v u → ∃ as, Reads s.heap u d.px as ∧ sysModules ∉ as := by
  have base : ∀ {d : D} {v : V} {u : Value}, (match d with | .non => True | .bl _ => True | .int _ => True | .str _ => True | _ => False) → Rep X.K F d v → RelV v u → ∃ as, Reads s.heap u d.px as ∧ sysModules ∉ as := by
    intro d v u h r rv
    cases d with
    | non => cases r; cases rv; exact ⟨_, .none, List.not_mem_nil⟩
    | bl b => cases r; cases rv; exact ⟨_, .bool b, List.not_mem_nil⟩
    | int i => cases r; obtain ⟨t, rfl⟩ := rv; exact ⟨_, .int i t, List.not_mem_nil⟩
    | str x => cases r; obtain ⟨t, rfl⟩ := rv; exact ⟨_, .str x t, List.not_mem_nil⟩
    | _ => exact h.elim
  have dct : ∀ {ks vs : List D} {m : Nat} {v : V} {u : Value}, (D.dct ks vs).dat B m → Rep X.K F (.dct ks vs) v → RelV v u → ∃ as, Reads s.heap u (.dict []) as ∧ sysModules ∉ as := by
    intro ks vs m v u h r rv
    have e : ks = [] := by
      have h' : (ks.isEmpty && vs.isEmpty) = true := by cases m <;> exact h
      rw [Bool.and_eq_true] at h'
      exact List.isEmpty_iff.mp h'.1
    subst e
    obtain ⟨p, us, rfl, hd, _⟩ := r
    cases rv
    refine dct_reads I hB (vs := us) ?_
    rcases hd with ⟨l, h1, h2⟩ | ⟨l, h1, h2⟩
    · exact .inl ⟨l, sF _ _ h1, h2⟩
    · exact .inr ⟨l, sF _ _ h1, h2⟩
  intro m
  induction m with
  | zero =>
    intro d v u h r rv
    cases d with
    | dct ks vs => exact dct h r rv
    | tup ds => exact absurd h Bool.false_ne_true
    | lst ds => exact absurd h Bool.false_ne_true
    | opq w => exact absurd h Bool.false_ne_true
    | scr w => exact absurd h Bool.false_ne_true
    | pdc _ _ => exact absurd h Bool.false_ne_true
    | exc _ _ _ => exact absurd h Bool.false_ne_true
    | _ => exact base trivial r rv
  | succ m ih =>
    have all : ∀ (ds : List D) (vs : List V), (∀ d ∈ ds, d.dat B m) → Reps X.K F ds vs → ∀ us, Vals vs us → ∃ as, ReadsAll s.heap us (D.pxs ds) as ∧ sysModules ∉ as := by
      intro ds
      induction ds with
      | nil =>
        intro vs _ r us rv
        cases r
        cases rv
        exact ⟨_, .nil, List.not_mem_nil⟩
      | cons d ds ih2 =>
        rintro vs h ⟨v, r, rfl, h1, h2⟩ us rv
        cases rv with
        | cons r1 r2 =>
          obtain ⟨as, a1, a2⟩ := ih (h d (by simp)) h1 r1
          obtain ⟨bs, b1, b2⟩ := ih2 r (fun e he => h e (by simp [he])) h2 _ r2
          exact ⟨_, .cons a1 b1, fun z => (List.mem_append.mp z).elim a2 b2⟩
    intro d v u h r rv
    cases d with
    | dct ks vs => exact dct h r rv
    | tup ds =>
      obtain ⟨p, vs, rfl, h1, h2⟩ := r
      cases rv
      exact tup_reads I (h1.sq sF) (all ds vs (dat_tup.mp h).2 h2)
    | lst ds =>
      obtain ⟨p, vs, rfl, h1, h2⟩ := r
      cases rv
      exact lst_reads I hB (sF _ _ h1) (all ds vs (dat_lst.mp h).2 h2)
    | opq w => exact absurd h Bool.false_ne_true
    | scr w => exact absurd h Bool.false_ne_true
    | pdc _ _ => exact absurd h Bool.false_ne_true
    | exc _ _ _ => exact absurd h Bool.false_ne_true
    | _ => exact base trivial r rv
theorem row_reads (I : Inv X pins σ H s) (hB : HasSys X.prog X.base) (sF : Same F H) {B m : Nat} {d : D} {v : V} {u : Value} (hd : d.dat B m) (hr : isRow d = true) (h : Shal X.K F H d v) (rv : RelV v u) : ∃ a as, u = .ref a ∧ Reads s.heap (.ref a) d.px as ∧ sysModules ∉ as := by
  have all : ∀ (m : Nat) (ds : List D) (vs : List V), (∀ d ∈ ds, d.dat B m) → Reps X.K F ds vs → ∀ us, Vals vs us → ∃ as, ReadsAll s.heap us (D.pxs ds) as ∧ sysModules ∉ as := by
    intro m ds
    induction ds with
    | nil =>
      intro vs _ r us rv
      cases r
      cases rv
      exact ⟨_, .nil, List.not_mem_nil⟩
    | cons d ds ih2 =>
      rintro vs h ⟨v, r, rfl, h1, h2⟩ us rv
      cases rv with
      | cons r1 r2 =>
        obtain ⟨as, a1, a2⟩ := rep_reads I hB sF (h d (by simp)) h1 r1
        obtain ⟨bs, b1, b2⟩ := ih2 r (fun e he => h e (by simp [he])) h2 _ r2
        exact ⟨_, .cons a1 b1, fun z => (List.mem_append.mp z).elim a2 b2⟩
  cases d with
  | tup ds =>
    obtain ⟨k, rfl, hx⟩ := dat_row (.inr hd)
    obtain ⟨p, vs, rfl, h1, h2⟩ := h
    cases rv
    obtain ⟨as, r⟩ := tup_reads I (h1.sq sF) (all k ds vs hx.2 h2)
    exact ⟨p, as, rfl, r⟩
  | lst ds =>
    obtain ⟨k, rfl, hx⟩ := dat_row (.inl hd)
    obtain ⟨p, vs, rfl, h1, h2⟩ := h
    cases rv
    obtain ⟨as, r⟩ := lst_reads I hB h1 (all k ds vs hx.2 h2)
    exact ⟨p, as, rfl, r⟩
  | _ => cases hr
end
def tShow (X : Cx) : List V → Hp → VK → Prop := fun xs H Q => ∃ (F : Hp) (x : V) (d : D) (B m : Nat), xs = [x] ∧ Same F H ∧ B ≤ 1900 ∧ m ≤ 60 ∧ d.dat B m ∧ isRow d = true ∧ Shal X.K F H d x ∧ d.sz ≤ 16000000 ∧ Q (.str d.px.shown) H
theorem call_repr {X : Cx} {k : Nat} (hr : RoomG k X.A) (hB : HasSys X.prog X.base) : CallR X (.builtin "repr") (tShow X) := by
  intro pins s σ H xs us Q I r h
  obtain ⟨F, x, d, B, m, rfl, sF, hB1, hm, hd, hrow, hs, hz, q⟩ := h
  obtain ⟨u, rfl, rx⟩ := vals1 r
  obtain ⟨a, as, rfl, rd, ns⟩ := row_reads I hB sF hd hrow hs rx
  obtain ⟨h1, h2⟩ := showable_dat hB1 hd
  have h3 := shown_sz hd
  have hu := hr.rm.un
  exact repr_of_reads' rd h1 (fun _ => ns) hr.gd (by omega) (fun _ _ e => e) (fun h' u tk hk => ⟨.str d.px.shown, H, I.kept hk, ⟨u, rfl⟩, q⟩) (Nat.le_trans h3 (Nat.le_trans hz (by decide)))
def gNeS : G2 := fun a b R => match a, b with
  | .str x, .str y => R (.bl (!decide (x = y))) 0
  | _, _ => False
theorem str_dec (x y : Str) : decide (V.str x = V.str y) = decide (x = y) := by
  rw [decide_eq_decide]
  exact ⟨fun h => V.str.inj h, fun h => by rw [h]⟩
theorem lk_neS {K : Fg} : Lk2 K rNe gNeS := fun F H a b x y R Q' s h1 h2 g w => by
  cases a <;> first | exact g.elim | skip
  cases b <;> first | exact g.elim | skip
  cases h1
  cases h2
  exact ⟨rfl, by rw [str_dec]; exact w _ _ _ _ .bl g⟩
end VL

set_option maxHeartbeats 2000000
namespace VL
open PySem PySem.Spec PyProof.Rows L2
local macro_rules | `(tactic| walk_at "v") => `(tactic| repeat (first | refine ⟨rfl, ?_⟩ | refine ⟨_, rfl, ?_⟩))
local macro_rules | `(tactic| walk_at "y") => `(tactic| refine ⟨fun _ => ?_, fun h => Bool.noConfusion (show true = false from h)⟩)
local macro_rules | `(tactic| walk_at "n") => `(tactic| refine ⟨fun h => Bool.noConfusion (show false = true from h), fun _ => ?_⟩)
local macro_rules | `(tactic| walk_at "ty") => `(tactic| refine ⟨_, rfl, by decide, ?_⟩)
local macro_rules | `(tactic| walk_at "tys") => `(tactic| refine ⟨_, rfl, _, rfl, by decide, ?_⟩)
local macro_rules | `(tactic| walk_at "z") => `(tactic| repeat (first | refine ⟨rfl, ?_⟩ | refine ⟨_, rfl, ?_⟩ | refine ⟨fun _ => ?_, fun h => Bool.noConfusion (show true = false from h)⟩ | refine ⟨fun h => Bool.noConfusion (show false = true from h), fun _ => ?_⟩ | refine ⟨tyIn rfl, ?_⟩ | refine ⟨tysIn rfl, ?_⟩ | refine ⟨smallL rfl, ?_⟩ | refine ⟨smallE rfl, ?_⟩))
local macro_rules | `(tactic| walk_at "zz") => `(tactic| repeat ((fail_if_success show forL _ _ _ _ _); first | refine ⟨rfl, ?_⟩ | refine ⟨_, rfl, ?_⟩ | refine ⟨fun _ => ?_, fun h => Bool.noConfusion (show true = false from h)⟩ | refine ⟨fun h => Bool.noConfusion (show false = true from h), fun _ => ?_⟩ | refine ⟨tyIn rfl, ?_⟩ | refine ⟨tysIn rfl, ?_⟩ | refine ⟨smallL rfl, ?_⟩ | refine ⟨smallE rfl, ?_⟩))
theorem forL_inv {rg : RG} {rb : RS} {E : EN} {I : List D → Ev → Prop} (hnil : ∀ ρ, I [] ρ → E.nx ρ) (hcons : ∀ d ds ρ (P : Ev → Prop), (∀ ρ2, I ds ρ2 → P ρ2) → I (d :: ds) ρ → rg d ρ fun ρ1 => rb ρ1 { nx := P, rt := E.rt, ct := P, bk := E.nx }) : ∀ items ρ, I items ρ → forL rg rb items ρ E
  | [], ρ, h => hnil ρ h
  | d :: ds, ρ, h => hcons d ds ρ _ (fun ρ2 h2 => forL_inv hnil hcons ds ρ2 h2) h
theorem lcL_inv {ivs : List Nat} {rg : RG} {rt : RT} {re : RE} {Q : List D → Ev → Prop} {I : List D → List D → Ev → Prop} (hnil : ∀ acc ρ, I [] acc ρ → Q acc ρ)
    (hcons : ∀ d ds acc ρ (P : D → Ev → Prop) (N : Ev → Prop), (∀ y ρ3, I ds (acc ++ [y]) ρ3 → P y ρ3) → (∀ ρ2, I ds acc ρ2 → N ρ2) → I (d :: ds) acc ρ →
      rg d (wipeE ivs ρ) fun ρ1 => rt ρ1 fun c ρ2 => way c (re ρ2 fun y _ ρ3 => acc.length < sizeLine ∧ P y ρ3) (N ρ2)) : ∀ items acc ρ, I items acc ρ → lcL ivs rg rt re items ρ acc Q
  | [], acc, ρ, h => hnil acc ρ h
  | d :: ds, acc, ρ, h => by
    have k := hcons d ds acc ρ (fun y ρ3 => lcL ivs rg rt re ds ρ3 (acc ++ [y]) Q) (fun ρ2 => lcL ivs rg rt re ds ρ2 acc Q) (fun y ρ3 h2 => lcL_inv hnil hcons ds (acc ++ [y]) ρ3 h2) (fun ρ2 h2 => lcL_inv hnil hcons ds acc ρ2 h2) h
    exact k
theorem mem_range {n : Nat} {d : D} (h : d ∈ (List.range n).map fun (i : Nat) => D.int (0 + (i : Int))) : ∃ k : Nat, d = .int k ∧ k < n := by
  obtain ⟨k, hk, e⟩ := List.mem_map.mp h
  rw [Int.zero_add] at e
  exact ⟨k, e.symm, List.mem_range.mp hk⟩
theorem divInt_cross {t b : Int} (hb : b ≠ 0) : (Rat.divInt t b).num * b = t * (Rat.divInt t b).den := (Rat.divInt_eq_divInt_iff (den_ne _) hb).mp (Rat.num_divInt_den _)
/-! ### worths -/
def dw (qs : List Rat) : D := .tup (qs.map dq)
/-- all of them so short -/
def allw (n : Nat) (qs : List Rat) : Prop := ∀ q ∈ qs, wt q ≤ n
theorem allw_le {m n : Nat} {qs : List Rat} (h : allw m qs) (l : m ≤ n) : allw n qs := fun q hq => Nat.le_trans (h q hq) l
def qadd : List Rat → List Rat → List Rat
  | p :: ps, q :: qs => (p + q) :: qadd ps qs
  | _, _ => []
def qmuls : List Rat → List Rat → List Rat
  | p :: ps, q :: qs => (p * q) :: qmuls ps qs
  | _, _ => []
def qscale (ps : List Rat) (c : Rat) : List Rat := ps.map (· * c)
def qdot (ps qs : List Rat) : Rat := qsum (qmuls ps qs) 0
@[irreducible] def sp_added : ASp := fun ds R => ∃ ps qs, ds = [dw ps, dw qs] ∧ ps.length ≤ 900 ∧ allw 40000000 ps ∧ allw 40000000 qs ∧ R (dw (qadd ps qs)) 0 []
@[irreducible] def sp_scaled : ASp := fun ds R => ∃ ps c, ds = [dw ps, dq c] ∧ ps.length ≤ 900 ∧ allw 40000000 ps ∧ wt c ≤ 40000000 ∧ R (dw (qscale ps c)) 0 []
@[irreducible] def sp_priced : ASp := fun ds R => ∃ ps qs n, ds = [dw ps, dw qs] ∧ ps.length ≤ 900 ∧ ps.length * (2 * n + 1) ≤ 40000000 ∧ allw n ps ∧ allw n qs ∧ R (dq (qdot ps qs)) 0 []
abbrev sp_l_priced : ASp := sp_priced
def dens (qs : List Rat) : Prop := ∀ q ∈ qs, q.den ≤ 1000
@[irreducible] def sp_l_worth : ASp := fun ds R => ∃ t k n, ds = [dT t, .int (k : Nat)] ∧ k ≤ 900 ∧ t.ok (n + 5 * k) ∧ ∀ qs t', qs.length = k → allw 21 qs → dens qs → t'.ok n → R (dw qs) 0 [dT t']
def isWorth (k : Int) : D → Bool
  | .tup xs => decide ((xs.length : Int) = k) && xs.all isPart
  | _ => false
@[irreducible] def sp_is_worth : ASp := fun ds R => ∃ k d B m, ds = [.int k, d] ∧ B ≤ 5000 ∧ d.dat B m ∧ R (.bl (isWorth k d)) 0 []
section
variable {R : RR}
theorem sp_added.mk {ps qs : List Rat} (hl : ps.length ≤ 900) (h1 : allw 40000000 ps) (h2 : allw 40000000 qs) (h : R (dw (qadd ps qs)) 0 []) : sp_added [dw ps, dw qs] R := by unfold sp_added; exact ⟨ps, qs, rfl, hl, h1, h2, h⟩
theorem sp_scaled.mk {ps : List Rat} {c : Rat} (hl : ps.length ≤ 900) (h1 : allw 40000000 ps) (h2 : wt c ≤ 40000000) (h : R (dw (qscale ps c)) 0 []) : sp_scaled [dw ps, dq c] R := by unfold sp_scaled; exact ⟨ps, c, rfl, hl, h1, h2, h⟩
theorem sp_priced.mk {ps qs : List Rat} (n : Nat) (hl0 : ps.length ≤ 900) (hl : ps.length * (2 * n + 1) ≤ 40000000) (h1 : allw n ps) (h2 : allw n qs) (h : R (dq (qdot ps qs)) 0 []) : sp_priced [dw ps, dw qs] R := by unfold sp_priced; exact ⟨ps, qs, n, rfl, hl0, hl, h1, h2, h⟩
theorem sp_l_worth.mkd {t : Tp} {k : Nat} (n : Nat) (hk : k ≤ 900) (ht : t.ok (n + 5 * k)) (h : ∀ qs t', qs.length = k → allw 21 qs → dens qs → t'.ok n → R (dw qs) 0 [dT t']) : sp_l_worth [dT t, .int k] R := by unfold sp_l_worth; exact ⟨t, k, n, rfl, hk, ht, h⟩
theorem sp_l_worth.mk {t : Tp} {k : Nat} (n : Nat) (hk : k ≤ 900) (ht : t.ok (n + 5 * k)) (h : ∀ qs t', qs.length = k → allw 21 qs → t'.ok n → R (dw qs) 0 [dT t']) : sp_l_worth [dT t, .int k] R := sp_l_worth.mkd n hk ht fun qs t' h1 h2 _ h3 => h qs t' h1 h2 h3
theorem sp_is_worth.mk {k : Int} {d : D} {B m : Nat} (hB : B ≤ 5000) (hd : d.dat B m) (h : R (.bl (isWorth k d)) 0 []) : sp_is_worth [.int k, d] R := by unfold sp_is_worth; exact ⟨k, d, B, m, rfl, hB, hd, h⟩
end
def rd_priced : RS := (rRet (rCall [false] sp_sum_of (rgAv (rLc [2, 3] (riZip (rfCons (rVar 0) (rfCons (rVar 1) rfNil))) (rgTup 2 (rgCons (rgName 2) (rgCons (rgName 3) rgNil))) rYes (rCall [false, false] sp_times (rgAv (rVar 2) (rgAv (rVar 3) rgA0)))) rgA0)))
def rd_l_priced : RS := (rSeq (rSet 2 (rTup1 (rfCons (rC (.int 0)) (rfCons (rC (.int 1)) rfNil))))
  (rSeq (rFor (riZip (rfCons (rVar 0) (rfCons (rVar 1) rfNil))) (rgTup 2 (rgCons (rgName 3) (rgCons (rgName 4) rgNil))) (rSet 2 (rCall [false, false] sp_l_plus (rgAv (rVar 2) (rgAv (rCall [false, false] sp_l_times (rgAv (rVar 3) (rgAv (rVar 4) rgA0))) rgA0)))))
  (rRet (rMove 2))))
def rd_l_worth : RS := (rRet (rCB gTupOf (raCons (roE (rLc [2] (riRng1 (rfCons (rVar 1) rfNil)) (rgName 2) rYes (rCall [true] sp_l_number (rgAs 0 rgA0)))) raNil)))
/-- two rows walked side by side -/
theorem zip_dq : ∀ ps qs : List Rat, zipL (ps.map dq) (qs.map dq) = (ps.zip qs).map fun x => .tup [dq x.1, dq x.2]
  | [], _ => rfl
  | p :: ps, [] => rfl
  | p :: ps, q :: qs => by
    show D.tup [dq p, dq q] :: zipL (ps.map dq) (qs.map dq) = _
    rw [zip_dq ps qs]; rfl
theorem qadd_zip : ∀ ps qs : List Rat, qadd ps qs = (ps.zip qs).map fun x => x.1 + x.2
  | [], _ => rfl
  | p :: ps, [] => rfl
  | p :: ps, q :: qs => by
    show (p + q) :: qadd ps qs = _
    rw [qadd_zip ps qs]; rfl
theorem qmuls_zip : ∀ ps qs : List Rat, qmuls ps qs = (ps.zip qs).map fun x => x.1 * x.2
  | [], _ => rfl
  | p :: ps, [] => rfl
  | p :: ps, q :: qs => by
    show (p * q) :: qmuls ps qs = _
    rw [qmuls_zip ps qs]; rfl
theorem restE_wipe (ivs : List Nat) (ρ0 ρ : Ev) : restE ivs ρ0 ρ = restE ivs ρ0 (wipeE ivs ρ) := by
  refine List.ext_getElem? fun i => ?_
  by_cases hi : i ∈ ivs
  · by_cases hl : i < ρ.length
    · rw [restE_in hi hl, restE_in hi (by rw [wipeE_len]; exact hl)]
    · rw [List.getElem?_eq_none (by rw [restE_len]; omega), List.getElem?_eq_none (by rw [restE_len, wipeE_len]; omega)]
  · rw [restE_out hi, restE_out hi, wipeE_out hi]
theorem wsum_le {n : Nat} : ∀ {qs : List Rat}, allw n qs → wsum qs ≤ qs.length * (n + 1)
  | [], _ => Nat.zero_le _
  | q :: qs, h => by
    have a := h q (by simp)
    have b := wsum_le (n := n) (qs := qs) fun x hx => h x (by simp [hx])
    show wt q + 1 + wsum qs ≤ (qs.length + 1) * (n + 1)
    rw [Nat.succ_mul]
    omega
theorem allw_qmuls {n : Nat} {ps qs : List Rat} (h1 : allw n ps) (h2 : allw n qs) : allw (2 * n) (qmuls ps qs) := by
  rw [qmuls_zip]
  intro r hr
  obtain ⟨⟨p, q⟩, hx, rfl⟩ := List.mem_map.mp hr
  have a := h1 p (List.of_mem_zip hx).1
  have b := h2 q (List.of_mem_zip hx).2
  have c := wt_mul p q
  show wt (p * q) ≤ 2 * n
  omega
theorem len_qmuls (ps qs : List Rat) : (qmuls ps qs).length ≤ ps.length := by
  rw [qmuls_zip, List.length_map, List.length_zip]
  omega
theorem len_cases {n l : Nat} (hl : l * (2 * n + 1) ≤ 40000000) (h : l ≠ 0) : n ≤ 20000000 := by
  have : 1 * (2 * n + 1) ≤ l * (2 * n + 1) := Nat.mul_le_mul_right _ (by omega)
  omega
theorem lcL_map' {α : Type} {ivs : List Nat} {rg : RG} {rt : RT} {re : RE} {Q : List D → Ev → Prop} {f : α → D} {g : α → D} {ρw : Ev} {xs : List α} (hl : xs.length ≤ 100000)
    (step : ∀ x ∈ xs, ∀ (n : Nat) (P : D → Ev → Prop) (N : Ev → Prop), n < sizeLine → (∀ ρ3, wipeE ivs ρ3 = ρw → P (f x) ρ3) → rg (g x) ρw fun ρ1 => rt ρ1 fun c ρ2 => way c (re ρ2 fun y _ ρ3 => n < sizeLine ∧ P y ρ3) (N ρ2))
    {ρ : Ev} (h0 : wipeE ivs ρ = ρw) (fin : ∀ ρ', wipeE ivs ρ' = ρw → Q (xs.map f) ρ') : lcL ivs rg rt re (xs.map g) ρ [] Q := by
  refine lcL_inv (I := fun items acc ρ => wipeE ivs ρ = ρw ∧ ∃ ys zs, xs = ys ++ zs ∧ items = zs.map g ∧ acc = ys.map f) (fun acc ρ hI => ?_) (fun d ds acc ρ P N hP hN hI => ?_) _ _ _ ⟨h0, [], xs, rfl, rfl, rfl⟩
  · obtain ⟨h, ys, zs, e1, e2, e3⟩ := hI
    cases zs with
    | cons z zs => cases e2
    | nil =>
      rw [List.append_nil] at e1
      subst e1 e3
      exact fin ρ h
  · obtain ⟨h, ys, zs, e1, e2, e3⟩ := hI
    cases zs with
    | nil => cases e2
    | cons z zs =>
      rw [List.map_cons] at e2
      cases e2
      rw [h]
      subst e3
      have big : (100000 : Nat) < sizeLine := by decide
      refine step z (by rw [e1]; simp) _ P N (Nat.lt_of_le_of_lt ?_ big) fun ρ3 h3 => hP _ _ ⟨h3, ys ++ [z], zs, by rw [e1]; simp, rfl, by rw [List.map_append]; rfl⟩
      rw [e1, List.length_append] at hl
      rw [List.length_map]
      omega
theorem qmuls_map (ps qs : List Rat) : ((ps.zip qs).map fun x => dq (x.1 * x.2)) = (qmuls ps qs).map dq := by
  rw [qmuls_zip, List.map_map]
  rfl
theorem rp_priced (ds : List D) (R : RR) (hl : ds.length = 2) (h : sp_priced ds R) : rd_priced (rho0 [false, false] 0 ds ++ List.replicate (4 - 2) .no) (endsOf [false, false] R) := by
  unfold sp_priced at h
  obtain ⟨ps, qs, n, rfl, hl4, hn, h1, h2, h⟩ := h
  walk_at "z"
  rw [zip_dq]
  refine lcL_map' (f := fun x : Rat × Rat => dq (x.1 * x.2)) (ρw := [.fz (dw ps), .fz (dw qs), .no, .no]) ?_ (fun x hx n' P N hn' hP => ?_) rfl (fun ρ' h' => ?_)
  · rw [List.length_zip]; omega
  · obtain ⟨p, q⟩ := x
    have hp := h1 p (List.of_mem_zip hx).1
    have hq := h2 q (List.of_mem_zip hx).2
    have hx0 : ps.length ≠ 0 := fun z => by
      have := (List.of_mem_zip hx).1
      rw [List.length_eq_zero_iff.mp z] at this
      exact absurd this List.not_mem_nil
    have := len_cases hn hx0
    walk_at "z"
    refine sp_times.mk (p := p) (q := q) (by omega) ?_
    walk_at "z"
    exact ⟨hn', hP _ rfl⟩
  · rw [restE_wipe, h', qmuls_map]
    walk_at "z"
    refine sp_sum_of.mk ?_ ?_
    · refine Nat.le_trans (wsum_le (allw_qmuls h1 h2)) (Nat.le_trans (Nat.mul_le_mul_right _ (len_qmuls ps qs)) hn)
    · walk_at "z"
      exact h
theorem rp_l_priced (ds : List D) (R : RR) (hl : ds.length = 2) (h : sp_priced ds R) : rd_l_priced (rho0 [false, false] 0 ds ++ List.replicate (5 - 2) .no) (endsOf [false, false] R) := by
  unfold sp_priced at h
  obtain ⟨ps, qs, n, rfl, hl4, hn, h1, h2, h⟩ := h
  walk_at "zz"
  have ex : ∀ x ∈ ps.zip qs, wt x.1 ≤ 20000000 ∧ wt x.2 ≤ 20000000 ∧ wt x.1 ≤ n ∧ wt x.2 ≤ n := fun x hx => by
    have hp := h1 x.1 (List.of_mem_zip (a := x.1) (b := x.2) hx).1
    have hq := h2 x.2 (List.of_mem_zip (a := x.1) (b := x.2) hx).2
    have hx0 : ps.length ≠ 0 := fun z => by
      have := (List.of_mem_zip (a := x.1) (b := x.2) hx).1
      rw [List.length_eq_zero_iff.mp z] at this
      exact absurd this List.not_mem_nil
    have := len_cases hn hx0
    exact ⟨by omega, by omega, hp, hq⟩
  refine forL_inv (I := fun items ρ => ∃ (zs : List (Rat × Rat)) (a : Rat) (x3 x4 : Sl), items = (zs.map fun x => D.tup [dq x.1, dq x.2]) ∧ ρ = [.fz (dw ps), .fz (dw qs), .fz (dq a), x3, x4] ∧ noIo [x3, x4] 0 = true ∧ noIo [x3, x4] 1 = true ∧ qsum (zs.map fun x => x.1 * x.2) a = qdot ps qs ∧ (∀ x ∈ zs, wt x.1 ≤ 20000000 ∧ wt x.2 ≤ 20000000 ∧ wt x.1 ≤ n ∧ wt x.2 ≤ n) ∧ wt a + zs.length * (2 * n + 1) ≤ 40000001) (fun ρ hI => ?_) (fun e es ρ P hP hI => ?_) _ _ ⟨ps.zip qs, 0, .no, .no, zip_dq ps qs, rfl, rfl, rfl, by rw [← qmuls_zip]; rfl, ex, ?_⟩
  · obtain ⟨zs, a, x3, x4, e1, rfl, k3, k4, e3, e4, e5⟩ := hI
    cases zs with
    | cons z zs => cases e1
    | nil =>
      walk_at "z"
      rw [← show a = qdot ps qs from e3] at h
      exact h
  · obtain ⟨zs, a, x3, x4, e1, rfl, k3, k4, e3, e4, e5⟩ := hI
    cases zs with
    | nil => cases e1
    | cons z zs =>
      rw [List.map_cons] at e1
      cases e1
      obtain ⟨w1, w2, w3, w4⟩ := e4 z (by simp)
      have m := wt_mul z.1 z.2
      have m2 := wt_add a (z.1 * z.2)
      rw [List.length_cons, Nat.succ_mul] at e5
      walk_at "z"
      refine ⟨k3, ?_⟩
      walk_at "z"
      refine ⟨k4, ?_⟩
      walk_at "z"
      refine sp_times.mk (p := z.1) (q := z.2) (by omega) ?_
      walk_at "z"
      refine sp_plus.mk (by omega) ?_
      refine ⟨_, rfl, rfl, ?_⟩
      exact hP _ ⟨zs, a + z.1 * z.2, .fz (dq z.1), .fz (dq z.2), rfl, rfl, rfl, rfl, e3, fun x hx => e4 x (by simp [hx]), by omega⟩
  · have e0 : wt (0 : Rat) = 1 := by decide
    rw [e0, List.length_zip]
    have : min ps.length qs.length * (2 * n + 1) ≤ ps.length * (2 * n + 1) := Nat.mul_le_mul_right _ (Nat.min_le_left _ _)
    omega
theorem rp_l_worth (ds : List D) (R : RR) (hl : ds.length = 2) (h : sp_l_worth ds R) : rd_l_worth (rho0 [true, false] 0 ds ++ List.replicate (3 - 2) .no) (endsOf [true, false] R) := by
  unfold sp_l_worth at h
  obtain ⟨t, k, n, rfl, hk, ht, h⟩ := h
  walk_at "z"
  refine ⟨by omega, ?_⟩
  walk_at "z"
  refine lcL_inv (I := fun items acc ρ => ∃ (t : Tp) (qs : List Rat), wipeE [2] ρ = [.io 0 (dT t), .fz (.int (k : Nat)), .no] ∧ acc = qs.map dq ∧ (allw 21 qs ∧ dens qs) ∧ qs.length + items.length = k ∧ t.ok (n + 5 * items.length)) (fun acc ρ hI => ?_) (fun d ds acc ρ P N hP hN hI => ?_) _ _ _ ⟨t, [], rfl, rfl, ⟨fun q hq => absurd hq List.not_mem_nil, fun q hq => absurd hq List.not_mem_nil⟩, ?_, ?_⟩
  · obtain ⟨t1, qs, e1, rfl, hq, e2, ht1⟩ := hI
    rw [restE_wipe, e1]
    walk_at "z"
    exact h qs t1 (by simpa using e2) hq.1 hq.2 (ht1.le (by omega))
  · obtain ⟨t1, qs, e1, rfl, hq, e2, ht1⟩ := hI
    rw [e1]
    rw [List.length_cons] at e2 ht1
    walk_at "z"
    refine sp_l_number.mkd (n + 5 * ds.length) (ht1.le (by omega)) fun q t2 hq2 hq3 ht2 => ?_
    walk_at "z"
    refine ⟨smallL (Nat.ble_eq_true_of_le (by rw [List.length_map]; omega)), hP _ _ ⟨t2, qs ++ [q], rfl, by rw [List.map_append]; rfl, ?_, by rw [List.length_append]; show qs.length + 1 + ds.length = k; omega, ht2⟩⟩
    refine ⟨fun r hr => ?_, fun r hr => ?_⟩
    · rcases List.mem_append.mp hr with hr | hr
      · exact hq.1 r hr
      · rw [List.mem_singleton] at hr; rw [hr]; exact hq2
    · rcases List.mem_append.mp hr with hr | hr
      · exact hq.2 r hr
      · rw [List.mem_singleton] at hr; rw [hr]; exact hq3
  · simp
  · rw [List.length_map, List.length_range]
    exact ht.le (by omega)
/-! ### the same again -/
@[irreducible] def sp_l_same (m : Nat) : ASp := fun ds R => ∃ d B j, ds = [d, d] ∧ j ≤ m ∧ j ≤ 60 ∧ B ≤ 90000 ∧ d.dat B j ∧ d.ok j = true ∧ R (.bl true) 0 []
theorem sp_l_same.mk {m : Nat} {d : D} {R : RR} (B j : Nat) (hj : j ≤ m) (hj2 : j ≤ 60) (hB : B ≤ 90000) (hd : d.dat B j) (ho : d.ok j = true) (h : R (.bl true) 0 []) : sp_l_same m [d, d] R := by unfold sp_l_same; exact ⟨d, B, j, rfl, hj, hj2, hB, hd, ho, h⟩
end VL

set_option maxHeartbeats 2000000
namespace VL
open PySem PySem.Spec PyProof.Rows L2
local macro_rules | `(tactic| walk_at "v") => `(tactic| repeat (first | refine ⟨rfl, ?_⟩ | refine ⟨_, rfl, ?_⟩))
local macro_rules | `(tactic| walk_at "y") => `(tactic| refine ⟨fun _ => ?_, fun h => Bool.noConfusion (show true = false from h)⟩)
local macro_rules | `(tactic| walk_at "n") => `(tactic| refine ⟨fun h => Bool.noConfusion (show false = true from h), fun _ => ?_⟩)
local macro_rules | `(tactic| walk_at "ty") => `(tactic| refine ⟨_, rfl, by decide, ?_⟩)
local macro_rules | `(tactic| walk_at "tys") => `(tactic| refine ⟨_, rfl, _, rfl, by decide, ?_⟩)
local macro_rules | `(tactic| walk_at "z") => `(tactic| repeat (first | refine ⟨rfl, ?_⟩ | refine ⟨_, rfl, ?_⟩ | refine ⟨fun _ => ?_, fun h => Bool.noConfusion (show true = false from h)⟩ | refine ⟨fun h => Bool.noConfusion (show false = true from h), fun _ => ?_⟩ | refine ⟨tyIn rfl, ?_⟩ | refine ⟨tysIn rfl, ?_⟩ | refine ⟨smallL rfl, ?_⟩ | refine ⟨smallE rfl, ?_⟩))
local macro_rules | `(tactic| walk_at "zz") => `(tactic| repeat ((fail_if_success show forL _ _ _ _ _); first | refine ⟨rfl, ?_⟩ | refine ⟨_, rfl, ?_⟩ | refine ⟨fun _ => ?_, fun h => Bool.noConfusion (show true = false from h)⟩ | refine ⟨fun h => Bool.noConfusion (show false = true from h), fun _ => ?_⟩ | refine ⟨tyIn rfl, ?_⟩ | refine ⟨tysIn rfl, ?_⟩ | refine ⟨smallL rfl, ?_⟩ | refine ⟨smallE rfl, ?_⟩))
/-! ### data with rows of at most L, ints of at most B -/
def D.dabb (L B : Nat) : Nat → D → Bool
  | 0, d => match d with
    | .non => true
    | .bl _ => true
    | .int i => Nat.ble (VL.bl i.natAbs) B
    | .str x => Nat.ble x.length 2100 && PyData.strOk x
    | .dct ks vs => ks.isEmpty && vs.isEmpty
    | _ => false
  | m + 1, d => match d with
    | .non => true
    | .bl _ => true
    | .int i => Nat.ble (VL.bl i.natAbs) B
    | .str x => Nat.ble x.length 2100 && PyData.strOk x
    | .dct ks vs => ks.isEmpty && vs.isEmpty
    | .tup ds => Nat.ble ds.length L && ds.all (D.dabb L B m)
    | .lst ds => Nat.ble ds.length L && ds.all (D.dabb L B m)
    | _ => false
def D.dab (L B m : Nat) (d : D) : Prop := d.dabb L B m = true
theorem dab_lst {L B m : Nat} {ds : List D} : (D.lst ds).dab L B (m + 1) ↔ ds.length ≤ L ∧ ∀ d ∈ ds, d.dab L B m := by
  show (Nat.ble ds.length L && ds.all (D.dabb L B m)) = true ↔ _
  rw [Bool.and_eq_true, List.all_eq_true]
  exact ⟨fun h => ⟨Nat.le_of_ble_eq_true h.1, h.2⟩, fun h => ⟨Nat.ble_eq_true_of_le h.1, h.2⟩⟩
theorem dab_tup {L B m : Nat} {ds : List D} : (D.tup ds).dab L B (m + 1) ↔ ds.length ≤ L ∧ ∀ d ∈ ds, d.dab L B m := dab_lst (m := m) (ds := ds) |> fun h => h
theorem dab_int {L B m : Nat} {i : Int} : (D.int i).dab L B m ↔ bl i.natAbs ≤ B := by
  cases m <;> exact ⟨Nat.le_of_ble_eq_true, Nat.ble_eq_true_of_le⟩
theorem dab_dat {L B C : Nat} (h1 : L ≤ C) (h2 : B ≤ C) : ∀ {m : Nat} {d : D}, d.dab L B m → d.dat C m := by
  intro m
  induction m with
  | zero =>
    intro d h
    cases d with
    | int i => exact dat_int.mpr (Nat.le_trans (dab_int.mp h) h2)
    | tup _ => exact absurd h Bool.false_ne_true
    | lst _ => exact absurd h Bool.false_ne_true
    | opq _ => exact absurd h Bool.false_ne_true
    | scr _ => exact absurd h Bool.false_ne_true
    | pdc _ _ => exact absurd h Bool.false_ne_true
    | exc _ _ _ => exact absurd h Bool.false_ne_true
    | _ => exact h
  | succ m ih =>
    intro d h
    cases d with
    | int i => exact dat_int.mpr (Nat.le_trans (dab_int.mp h) h2)
    | tup ds => exact dat_tup.mpr ⟨Nat.le_trans (dab_tup.mp h).1 h1, fun x hx => ih ((dab_tup.mp h).2 x hx)⟩
    | lst ds => exact dat_lst.mpr ⟨Nat.le_trans (dab_lst.mp h).1 h1, fun x hx => ih ((dab_lst.mp h).2 x hx)⟩
    | opq _ => exact absurd h Bool.false_ne_true
    | scr _ => exact absurd h Bool.false_ne_true
    | pdc _ _ => exact absurd h Bool.false_ne_true
    | exc _ _ _ => exact absurd h Bool.false_ne_true
    | _ => exact h
/-- few enough for sums -/
def small (L B : Nat) : Prop := L * (B + 1) ≤ 4000 ∧ L ≤ 900 ∧ B ≤ 900

/-! ### lands by this model's own words -/
def isPlace (m : Int) : D → Bool
  | .int i => decide (0 ≤ i) && decide (i < m)
  | _ => false
def folOf : D → Option (Int × Rat)
  | .tup [.int s, .tup [.int a, .int b]] => if isPart (.tup [.int a, .int b]) = true then some (s, Rat.divInt a b) else none
  | _ => none
def isFol (m : Int) (d : D) : Bool := match folOf d with
  | some (s, q) => decide (0 ≤ s) && decide (s < m) && decide (0 < q)
  | none => false
def folGo (m : Int) : Int → Rat → List D → Bool
  | _, acc, [] => decide (acc = 1)
  | ah, acc, x :: r => match folOf x with
    | none => false
    | some (s, q) => decide (ah < s) && decide (s < m) && decide (0 < q) && folGo m s (acc + q) r
def isFols (m : Int) : D → Bool
  | .lst xs => !xs.isEmpty && folGo m (-1) 0 xs
  | _ => false
def isDeed (k m : Int) : D → Bool
  | .tup [w, f] => isWorth k w && isFols m f
  | _ => false
def isState (k m : Int) : D → Bool
  | .tup [c, e, .lst ds] => isPlace k c && isWorth k e && ds.all (isDeed k m)
  | _ => false
def isLand : D → Bool
  | .tup [.int k, .lst sts] => decide (1 ≤ k) && decide (k ≤ 4) && !sts.isEmpty && sts.all (isState k sts.length)
  | _ => false
@[irreducible] def sp_is_place : ASp := fun ds R => ∃ d m, ds = [d, .int m] ∧ (tyD d).isSome = true ∧ R (.bl (isPlace m d)) 0 []
@[irreducible] def sp_is_follower : ASp := fun ds R => ∃ d m L B j, ds = [d, .int m] ∧ small L B ∧ d.dab L B j ∧ R (.bl (isFol m d)) 0 []
@[irreducible] def sp_are_followers : ASp := fun ds R => ∃ d m L B j, ds = [d, .int m] ∧ small L B ∧ d.dab L B j ∧ R (.bl (isFols m d)) 0 []
@[irreducible] def sp_is_deed : ASp := fun ds R => ∃ k d m L B j, ds = [.int k, d, .int m] ∧ small L B ∧ d.dab L B j ∧ R (.bl (isDeed k m d)) 0 []
@[irreducible] def sp_is_state : ASp := fun ds R => ∃ k d m L B j, ds = [.int k, d, .int m] ∧ small L B ∧ d.dab L B j ∧ R (.bl (isState k m d)) 0 []
@[irreducible] def sp_is_land : ASp := fun ds R => ∃ d L B j, ds = [d] ∧ small L B ∧ d.dab L B j ∧ R (.bl (isLand d)) 0 []
section
variable {R : RR} {k m : Int} {d : D} {L B j : Nat}
theorem sp_is_place.mk (h : (tyD d).isSome = true) (r : R (.bl (isPlace m d)) 0 []) : sp_is_place [d, .int m] R := by unfold sp_is_place; exact ⟨d, m, rfl, h, r⟩
theorem sp_is_follower.mk (hs : small L B) (h : d.dab L B j) (r : R (.bl (isFol m d)) 0 []) : sp_is_follower [d, .int m] R := by unfold sp_is_follower; exact ⟨d, m, L, B, j, rfl, hs, h, r⟩
theorem sp_are_followers.mk (hs : small L B) (h : d.dab L B j) (r : R (.bl (isFols m d)) 0 []) : sp_are_followers [d, .int m] R := by unfold sp_are_followers; exact ⟨d, m, L, B, j, rfl, hs, h, r⟩
theorem sp_is_deed.mk (hs : small L B) (h : d.dab L B j) (r : R (.bl (isDeed k m d)) 0 []) : sp_is_deed [.int k, d, .int m] R := by unfold sp_is_deed; exact ⟨k, d, m, L, B, j, rfl, hs, h, r⟩
theorem sp_is_state.mk (hs : small L B) (h : d.dab L B j) (r : R (.bl (isState k m d)) 0 []) : sp_is_state [.int k, d, .int m] R := by unfold sp_is_state; exact ⟨k, d, m, L, B, j, rfl, hs, h, r⟩
theorem sp_is_land.mk (hs : small L B) (h : d.dab L B j) (r : R (.bl (isLand d)) 0 []) : sp_is_land [d] R := by unfold sp_is_land; exact ⟨d, L, B, j, rfl, hs, h, r⟩
end
/-! ### followers: the program's way and this model's -/
end VL

namespace VL
open PySem PySem.Spec PyProof.Rows L2

/-! ### sorted, of rows of d ints from 0 on, below B -/
def rowI (ns : List Int) : D := .tup (ns.map .int)
def gSortT (d : Nat) (B : Int) : GN := g1 fun e R => match e with
  | .lst xs => xs.length < 64 ∧ (∀ x ∈ xs, ∃ ns, x = rowI ns ∧ ns.length = d ∧ TS.Bd B ns) ∧
    ∀ ys : List D, ys.Perm xs → ys.Pairwise (fun x y => ∀ n m, x = rowI n → y = rowI m → TS.code B n ≤ TS.code B m) → R (.lst ys) 1
  | _ => False
theorem reps_mem {K : Fg} {F : Hp} : ∀ {ds : List D} {vs : List V} {v : V}, Reps K F ds vs → v ∈ vs → ∃ d ∈ ds, Rep K F d v
  | [], _, v, h, hv => by cases h; cases hv
  | d :: ds, _, v, ⟨u, r, e, h1, h2⟩, hv => by
    subst e
    rcases List.mem_cons.mp hv with rfl | hv
    · exact ⟨d, by simp, h1⟩
    · obtain ⟨d', h3, h4⟩ := reps_mem h2 hv
      exact ⟨d', by simp [h3], h4⟩
theorem reps_perm {K : Fg} {F : Hp} {us vs : List V} (p : us.Perm vs) : ∀ {ds : List D}, Reps K F ds vs → ∃ es : List D, es.Perm ds ∧ Reps K F es us := by
  induction p with
  | nil => intro ds h; exact ⟨ds, .refl _, h⟩
  | cons x _ ih =>
    intro ds h
    cases ds with
    | nil => exact absurd (show _ :: _ = [] from h) (by simp)
    | cons d ds =>
      obtain ⟨v, r, e, h1, h2⟩ := h
      cases e
      obtain ⟨es, p2, h3⟩ := ih h2
      exact ⟨d :: es, .cons d p2, _, _, rfl, h1, h3⟩
  | swap x y l =>
    intro ds h
    cases ds with
    | nil => exact absurd (show _ :: _ = [] from h) (by simp)
    | cons d ds =>
      obtain ⟨v, r, e, h1, h2⟩ := h
      cases e
      cases ds with
      | nil => exact absurd (show _ :: _ = [] from h2) (by simp)
      | cons d2 ds =>
        obtain ⟨v2, r2, e2, h3, h4⟩ := h2
        cases e2
        exact ⟨d2 :: d :: ds, .swap _ _ _, _, _, rfl, h3, _, _, rfl, h1, h4⟩
  | trans _ _ ih1 ih2 =>
    intro ds h
    obtain ⟨es, p2, h3⟩ := ih2 h
    obtain ⟨fs, p3, h4⟩ := ih1 h3
    exact ⟨fs, p3.trans p2, h4⟩
theorem reps_ints {K : Fg} {F : Hp} : ∀ {ns : List Int} {vs : List V}, Reps K F (ns.map .int) vs → vs = ns.map V.int
  | [], _, h => by cases h; rfl
  | n :: ns, _, ⟨v, r, e, h1, h2⟩ => by
    subst e
    cases h1
    rw [reps_ints h2]; rfl
theorem rowI_tup {K : Fg} {F H : Hp} {ns : List Int} {v : V} (s : Same F H) (h : Rep K F (rowI ns) v) : TupI K H v ns := by
  obtain ⟨p, vs, rfl, h1, h2⟩ := h
  obtain rfl := reps_ints h2
  exact ⟨p, rfl, h1.sq s⟩
theorem pair_reps {K : Fg} {F H : Hp} {le : List Int → List Int → Prop} (s : Same F H) : ∀ {es : List D} {us : List V}, Reps K F es us → us.Pairwise (fun x y => ∀ n m, TupI K H x n → TupI K H y m → le n m) → es.Pairwise (fun x y => ∀ n m, x = rowI n → y = rowI m → le n m)
  | [], _, _, _ => .nil
  | e :: es, _, ⟨u, r, q, h1, h2⟩, hp => by
    subst q
    rw [List.pairwise_cons] at hp
    refine List.Pairwise.cons (fun y hy n m en em => ?_) (pair_reps s h2 hp.2)
    subst en em
    -- the value that stands for y
    have : ∃ v ∈ r, Rep K F (rowI m) v := by
      clear hp h1
      induction es generalizing r with
      | nil => cases hy
      | cons e2 es ih =>
        obtain ⟨v, r', q, k1, k2⟩ := h2
        subst q
        rcases List.mem_cons.mp hy with rfl | hy
        · exact ⟨v, by simp, k1⟩
        · obtain ⟨v', m1, m2⟩ := ih r' k2 hy
          exact ⟨v', by simp [m1], m2⟩
    obtain ⟨v, hv, rv⟩ := this
    exact hp.1 v hv n m (rowI_tup s h1) (rowI_tup s rv)
theorem lk_sortT {K : Fg} {d : Nat} {B : Int} : LkN K (rSortU K d B) (gSortT d B) := fun F H ds vs R Q' s h g w => by
  obtain ⟨e, e0, g⟩ := g.of
  subst e0
  cases e <;> first | exact g.elim | skip
  rename_i xs
  obtain ⟨v, e, p, us, e2, h2, r⟩ := h.one
  subst e2
  obtain ⟨g1, g2, g3⟩ := g
  refine ⟨p, us, e, .inl (.inl h2), by rw [r.length]; exact g1, fun x hx => ?_, fun ys q hp hpw hq => ?_⟩
  · obtain ⟨dx, m1, m2⟩ := reps_mem r hx
    obtain ⟨ns, e3, e4, e5⟩ := g2 dx m1
    subst e3
    exact ⟨ns, rowI_tup s m2, e4, e5⟩
  · obtain ⟨es, p2, r2⟩ := reps_perm hp r
    exact w _ _ _ _ (.lst hq r2) (g3 es p2 (pair_reps s r2 hpw))
end VL

namespace VL
open PySem PySem.Spec PyProof.Rows L2

/-! ### a def of the row: where it lies, how it is called -/
structure Fx (K : Fg) (mg : Str → Option Value) (x : Str) (st : Stmt) (ps : List Str) where
  f : Addr
  fd : FuncData
  F : Fun K x x st f fd
  m : mg x = some (.ref f)
  b : Binds K fd ps []
abbrev BindArgs (x : Str) (st : Stmt) (ps : List Str) : Prop := ∀ (kV doc pm : Value) (an : Option Addr) (cdv ct : Value) (us : List Value), us.length = ps.length → bindArgs (PySem.W.fnOf x x (defArgs st) (defBody st) (defScope st) .none kV doc pm an cdv ct) ⟨us, []⟩ = pure (ps.zip us)
theorem fx_of {K : Fg} {mg : Str → Option Value} {h : Heap} {x : Str} {st : Stmt} {ps : List Str} {f : Addr} {od an : Option Addr} {sl : Array (Option Value)} {oc kV dc pm cd ct : Value} (hb : BindArgs x st ps) (X : K.In h) (G : h.Ns mainGlobals mg)
    (a : PySem.W.nsIn K mainGlobals x = some (some (.ref f))) (l : K.lookup f = some ⟨oc, od, .func (PySem.W.fnOf x x (defArgs st) (defBody st) (defScope st) .none kV dc pm an cd ct), sl⟩) (c : PySem.W.codeIn K cd x = true) (k : PySem.W.keepIn K (.ref f) = true) : Nonempty (Fx K mg x st ps) := by
  have F := fun_mk (st := st) l c k
  exact ⟨⟨f, _, F, PySem.W.mg_of X G a, F.binds hb⟩⟩
/-- the law's own def -/
theorem fx_law {K : Fg} {mg : Str → Option Value} {h : Heap} {x y : Str} {st : Stmt} {f fa : Addr} {od an : Option Addr} {sl : Array (Option Value)} {oc kV dc pm cd ct : Value} (hb : BindArgs x st [y]) (X : K.In h) (G : h.Ns mainGlobals mg) (hfa : mg x = some (.ref fa))
    (a : PySem.W.nsIn K mainGlobals x = some (some (.ref f))) (l : K.lookup f = some ⟨oc, od, .func (PySem.W.fnOf x x (defArgs st) (defBody st) (defScope st) .none kV dc pm an cd ct), sl⟩) (c : PySem.W.codeIn K cd x = true) (k : PySem.W.keepIn K (.ref f) = true) :
    ∃ fd : FuncData, Fun K x x st fa fd ∧ ∀ (s : Shared) (u : Value), BindsTo s fd ⟨[u], []⟩ [(y, u)] := by
  have e := hfa.symm.trans (PySem.W.mg_of X G a)
  cases e
  exact ⟨_, fun_mk (st := st) l c k, fun s u => .of_eq (hb _ _ _ _ _ _ [u] rfl)⟩

/-! ### the law -/
@[irreducible] def sp_law : ASp := fun ds R => ∃ ns : List Int, ds = [.scr ns] ∧ ns.length ≤ 63 ∧ (∀ n ∈ ns, bl n.natAbs ≤ 2000000) ∧ R (.bl true) 0 []
theorem law_end {K : Fg} {H : Hp} {a : Addr} {ns : List Int} {E : XK} (hl : ns.length ≤ 63) (hb : ∀ z ∈ ns, Builtin.Int.intBits z ≤ 1048576) (hS : SqL K H a (ns.map V.int)) : liftSp K [false] sp_law [.ref a] H (fun v _ => v = .bl true) E := by
  refine ⟨H, [.scr ns], [], fun d k outs => d = .bl true ∧ k = 0, Same.refl H, ⟨.scr ns, .ref a, [], [], rfl, rfl, ⟨a, rfl, hS⟩, rfl, rfl, rfl⟩, .nil, (fun a h => absurd h (List.not_mem_nil)), ?_, ?_⟩
  · unfold sp_law
    refine ⟨ns, rfl, hl, fun n hn => ?_, rfl, rfl⟩
    have h := hb n hn
    unfold Builtin.Int.intBits at h
    unfold bl
    by_cases e : n = 0
    · subst e; decide
    · rw [if_neg (by simpa using e)] at h
      rw [if_neg (by omega)]
      omega
  · rintro v H' ⟨F', d, k, fp, outs, _, _, _, _, _, ho, _, _, _, rfl, rfl⟩
    exact ho.2
end VL

set_option maxHeartbeats 2000000
namespace VL
open PySem PySem.Spec PyProof.Rows L2
local macro_rules | `(tactic| walk_at "v") => `(tactic| repeat (first | refine ⟨rfl, ?_⟩ | refine ⟨_, rfl, ?_⟩))
local macro_rules | `(tactic| walk_at "y") => `(tactic| refine ⟨fun _ => ?_, fun h => Bool.noConfusion (show true = false from h)⟩)
local macro_rules | `(tactic| walk_at "n") => `(tactic| refine ⟨fun h => Bool.noConfusion (show false = true from h), fun _ => ?_⟩)
local macro_rules | `(tactic| walk_at "ty") => `(tactic| refine ⟨_, rfl, by decide, ?_⟩)
local macro_rules | `(tactic| walk_at "tys") => `(tactic| refine ⟨_, rfl, _, rfl, by decide, ?_⟩)
local macro_rules | `(tactic| walk_at "z") => `(tactic| repeat (first | refine ⟨rfl, ?_⟩ | refine ⟨_, rfl, ?_⟩ | refine ⟨fun _ => ?_, fun h => Bool.noConfusion (show true = false from h)⟩ | refine ⟨fun h => Bool.noConfusion (show false = true from h), fun _ => ?_⟩ | refine ⟨tyIn rfl, ?_⟩ | refine ⟨tysIn rfl, ?_⟩ | refine ⟨smallL rfl, ?_⟩ | refine ⟨smallE rfl, ?_⟩))
local macro_rules | `(tactic| walk_at "zz") => `(tactic| repeat ((fail_if_success show forL _ _ _ _ _); first | refine ⟨rfl, ?_⟩ | refine ⟨_, rfl, ?_⟩ | refine ⟨fun _ => ?_, fun h => Bool.noConfusion (show true = false from h)⟩ | refine ⟨fun h => Bool.noConfusion (show false = true from h), fun _ => ?_⟩ | refine ⟨tyIn rfl, ?_⟩ | refine ⟨tysIn rfl, ?_⟩ | refine ⟨smallL rfl, ?_⟩ | refine ⟨smallE rfl, ?_⟩))
theorem ix_fin {xs : List D} {i : Int} {Q : D → Prop} (h0 : 0 ≤ i) (h1 : i < xs.length) (h : ∀ x ∈ xs, Q x) : ∃ x, atI xs i = some x ∧ Q x := by
  obtain ⟨x, e, hx⟩ := atI_get_nn h0 h1
  exact ⟨x, e, h x hx⟩
/-! ### a land's followers -/
def dF (x : Nat × Rat) : D := .tup [.int x.1, dq x.2]
def dP (x : Nat × Nat) : D := .tup [.int x.1, .int x.2]
structure FolOk (n : Nat) (fs : List (Nat × Rat)) : Prop where
  ne : fs ≠ []
  len : fs.length ≤ 4
  lt : ∀ x ∈ fs, x.1 < n
  rise : fs.Pairwise fun x y => x.1 < y.1
  pos : ∀ x ∈ fs, 0 < x.2
  wt : ∀ x ∈ fs, wt x.2 ≤ 6
  sum : qsum (fs.map (·.2)) 0 = 1
@[irreducible] def sp_l_followers : ASp := fun ds R => ∃ (t : Tp) (n m c : Nat), ds = [dT t, .int n, .int m] ∧ 1 ≤ n ∧ n ≤ 8 ∧ 1 ≤ m ∧ m ≤ 4 ∧ t.ok (c + 13) ∧ ∀ fs t', FolOk n fs → t'.ok c → R (.lst (fs.map dF)) 1 [dT t']
theorem sp_l_followers.mk {t : Tp} {n m : Nat} {R : RR} (c : Nat) (h1 : 1 ≤ n) (h2 : n ≤ 8) (h3 : 1 ≤ m) (h4 : m ≤ 4) (ht : t.ok (c + 13)) (h : ∀ fs t', FolOk n fs → t'.ok c → R (.lst (fs.map dF)) 1 [dT t']) : sp_l_followers [dT t, .int n, .int m] R := by
  unfold sp_l_followers
  exact ⟨t, n, m, c, rfl, h1, h2, h3, h4, ht, h⟩
theorem perm_map_inv {α β : Type} {f : α → β} {ys : List β} {l : List β} (p : ys.Perm l) : ∀ {xs : List α}, l = xs.map f → ∃ zs : List α, zs.Perm xs ∧ ys = zs.map f := by
  induction p with
  | nil => intro xs h; exact ⟨xs, .refl _, h⟩
  | cons x _ ih =>
    intro xs h
    cases xs with
    | nil => cases h
    | cons a xs =>
      cases h
      obtain ⟨zs, p2, e⟩ := ih rfl
      exact ⟨a :: zs, .cons a p2, by rw [e]; rfl⟩
  | swap x y l =>
    intro xs h
    cases xs with
    | nil => cases h
    | cons a xs =>
      cases xs with
      | nil => cases h
      | cons b xs =>
        cases h
        exact ⟨b :: a :: xs, .swap _ _ _, rfl⟩
  | trans _ _ ih1 ih2 =>
    intro xs h
    obtain ⟨zs, p2, e2⟩ := ih2 h
    obtain ⟨ws, p1, e1⟩ := ih1 e2
    exact ⟨ws, p1.trans p2, e1⟩
theorem sum_perm {xs ys : List Int} (p : xs.Perm ys) : xs.sum = ys.sum := by
  induction p with
  | nil => rfl
  | cons x _ ih => rw [List.sum_cons, List.sum_cons, ih]
  | swap x y l => rw [List.sum_cons, List.sum_cons, List.sum_cons, List.sum_cons]; omega
  | trans _ _ h1 h2 => rw [h1, h2]
theorem div_add {a b W : Int} (hW : W ≠ 0) : Rat.divInt a W + Rat.divInt b W = Rat.divInt (a + b) W := by
  rw [Rat.divInt_add_divInt _ _ hW hW, ← Int.add_mul]
  exact Rat.divInt_mul_right hW
theorem qsum_div {W : Int} (hW : W ≠ 0) : ∀ (ws : List Int) (s : Int), qsum (ws.map fun w => Rat.divInt w W) (Rat.divInt s W) = Rat.divInt (s + ws.sum) W
  | [], s => by show Rat.divInt s W = Rat.divInt (s + 0) W; rw [Int.add_zero]
  | w :: ws, s => by
    show qsum (ws.map fun w => Rat.divInt w W) (Rat.divInt s W + Rat.divInt w W) = _
    rw [div_add hW, qsum_div hW ws, List.sum_cons, Int.add_assoc]
theorem sum_pos {ws : List (Nat × Nat)} (h : ∀ x ∈ ws, 1 ≤ x.2 ∧ x.2 ≤ 9) : (ws.length : Int) ≤ (ws.map fun x => (x.2 : Int)).sum ∧ (ws.map fun x => (x.2 : Int)).sum ≤ 9 * ws.length := by
  induction ws with
  | nil => exact ⟨Int.le_refl _, Int.le_refl _⟩
  | cons x xs ih =>
    obtain ⟨a, b⟩ := ih fun y hy => h y (by simp [hy])
    have c := h x (by simp)
    rw [List.map_cons, List.sum_cons, List.length_cons]
    omega
theorem map_erase {α β : Type} (f : α → β) : ∀ (xs : List α) (k : Nat), (xs.map f).eraseIdx k = (xs.eraseIdx k).map f
  | [], _ => rfl
  | x :: xs, 0 => rfl
  | x :: xs, k + 1 => by
    show f x :: (xs.map f).eraseIdx k = f x :: (xs.eraseIdx k).map f
    rw [map_erase f xs k]
theorem erase_perm {α : Type} : ∀ {xs : List α} {k : Nat} {x : α}, xs[k]? = some x → xs.Perm (x :: xs.eraseIdx k)
  | y :: ys, 0, x, h => by cases h; exact .refl _
  | y :: ys, k + 1, x, h => by
    have h' : ys[k]? = some x := h
    exact (List.Perm.cons y (erase_perm h')).trans (.swap _ _ _)
/-- what stands behind so many turns -/
structure Drw (n : Nat) (left : List Nat) (ws : List (Nat × Nat)) : Prop where
  nd : (left ++ ws.map (·.1)).Nodup
  lt : ∀ i ∈ left ++ ws.map (·.1), i < n
  len : left.length + ws.length = n
  wts : ∀ x ∈ ws, 1 ≤ x.2 ∧ x.2 ≤ 9
theorem Drw.start (n : Nat) : Drw n (List.range n) [] := ⟨by rw [List.map_nil, List.append_nil]; exact List.nodup_range, fun i hi => by rw [List.map_nil, List.append_nil] at hi; exact List.mem_range.mp hi, by rw [List.length_range]; rfl, fun x hx => absurd hx List.not_mem_nil⟩
theorem Drw.next {n : Nat} {left : List Nat} {ws : List (Nat × Nat)} (h : Drw n left ws) {k x w : Nat} (hk : left[k]? = some x) (h1 : 1 ≤ w) (h2 : w ≤ 9) : Drw n (left.eraseIdx k) (ws ++ [(x, w)]) := by
  have hl : k < left.length := (List.getElem?_eq_some_iff.mp hk).1
  have p : (left ++ ws.map (·.1)).Perm (left.eraseIdx k ++ (ws ++ [(x, w)]).map (·.1)) := by
    rw [List.map_append]
    show (left ++ ws.map (·.1)).Perm (left.eraseIdx k ++ (ws.map (·.1) ++ [x]))
    refine ((erase_perm hk).append_right _).trans ?_
    rw [← List.append_assoc]
    show ([x] ++ (left.eraseIdx k ++ ws.map (·.1))).Perm _
    exact List.perm_append_comm
  refine ⟨p.nodup_iff.mp h.nd, fun i hi => h.lt i (p.mem_iff.mpr hi), ?_, fun y hy => ?_⟩
  · rw [List.length_eraseIdx, if_pos hl, List.length_append]
    have := h.len
    show left.length - 1 + (ws.length + 1) = n
    omega
  · rcases List.mem_append.mp hy with hy | hy
    · exact h.wts y hy
    · rw [List.mem_singleton.mp hy]; exact ⟨h1, h2⟩
theorem fols_ok {n : Nat} {left : List Nat} {ws zs : List (Nat × Nat)} (h : Drw n left ws) (hne : ws ≠ []) (hl : ws.length ≤ 4) (p : zs.Perm ws) (hp : (zs.map dP).Pairwise fun x y => ∀ n m, x = rowI n → y = rowI m → TS.code 1099511627776 n ≤ TS.code 1099511627776 m) :
    FolOk n (zs.map fun x => (x.1, Rat.divInt x.2 (ws.map fun x => (x.2 : Int)).sum)) := by
  obtain ⟨s1, s2⟩ := sum_pos h.wts
  have hlen0 : 0 < ws.length := List.length_pos_iff.mpr hne
  generalize hW : (ws.map fun x => (x.2 : Int)).sum = W at *
  have hW0 : W ≠ 0 := by omega
  have wz : ∀ x ∈ zs, 1 ≤ x.2 ∧ x.2 ≤ 9 := fun x hx => h.wts x (p.mem_iff.mp hx)
  refine ⟨fun z => ?_, by rw [List.length_map, p.length_eq]; exact hl, fun y hy => ?_, ?_, fun y hy => ?_, fun y hy => ?_, ?_⟩
  · have := p.length_eq
    rw [List.map_eq_nil_iff.mp z] at this
    simp at this
    omega
  · obtain ⟨x, hx, rfl⟩ := List.mem_map.mp hy
    exact h.lt x.1 (List.mem_append_right _ (List.mem_map.mpr ⟨x, p.mem_iff.mp hx, rfl⟩))
  · rw [List.pairwise_map]
    rw [List.pairwise_map] at hp
    have nd : (zs.map (·.1)).Nodup := (p.map (·.1)).nodup_iff.mpr (List.nodup_append.mp h.nd).2.1
    have nd2 : zs.Pairwise fun x y => x.1 ≠ y.1 := List.pairwise_map.mp nd
    refine (hp.and nd2).imp_of_mem ?_
    intro x y hx hy ⟨a, b⟩
    have c := a [x.1, x.2] [y.1, y.2] rfl rfl
    have wx := wz x hx
    have wy := wz y hy
    show x.1 < y.1
    have e1 : TS.code 1099511627776 [(x.1 : Int), x.2] = x.1 * 1099511627776 + (x.2 * 1 + 0) := rfl
    have e2 : TS.code 1099511627776 [(y.1 : Int), y.2] = y.1 * 1099511627776 + (y.2 * 1 + 0) := rfl
    rw [e1, e2] at c
    have b' : x.1 ≠ y.1 := b
    omega
  · obtain ⟨x, hx, rfl⟩ := List.mem_map.mp hy
    have wx := wz x hx
    show 0 < Rat.divInt x.2 W
    have : (Rat.divInt 0 W) < Rat.divInt x.2 W := by
      rw [Rat.lt_iff]
      have c1 := divInt_cross (t := (x.2 : Int)) hW0
      rw [Rat.zero_divInt]
      show 0 * ((Rat.divInt x.2 W).den : Int) < (Rat.divInt x.2 W).num * 1
      rw [Int.zero_mul, Int.mul_one]
      have d0 := (Rat.divInt x.2 W).den_pos
      have : 0 < (x.2 : Int) * ((Rat.divInt x.2 W).den : Int) := Int.mul_pos (by omega) (by omega)
      rw [← c1] at this
      exact Int.pos_of_mul_pos_left this (by omega)
    rwa [Rat.zero_divInt] at this
  · obtain ⟨x, hx, rfl⟩ := List.mem_map.mp hy
    have wx := wz x hx
    refine Nat.le_trans (divInt_wt _ _ hW0) (Nat.max_le.mpr ⟨bl_small (by omega), bl_small (by omega)⟩)
  · rw [List.map_map]
    have e := qsum_div hW0 (zs.map fun x => (x.2 : Int)) 0
    rw [List.map_map, Rat.zero_divInt] at e
    show qsum (zs.map fun x => Rat.divInt x.2 W) 0 = 1
    refine e.trans ?_
    rw [Int.zero_add, sum_perm (p.map fun x => (x.2 : Int)), hW]
    exact Rat.divInt_self' hW0
def rd_l_followers : RS := (rSeq (rPar 3 4 (rListRg1 (rVar 1)) (rLst1 rfNil))
  (rSeq (rFor (riRng1 (rfCons (rOp2 gAddV (roE (rC (.int 1))) (roE (rCall [true, false] sp_l_draw (rgAs 0 (rgAv (rCB gMin (raCons (roV 1) (raCons (roV 2) raNil))) rgA0))))) rfNil)) (rgName 5) (rSeq (rSet 6 (rMet 3 gPopAt (raCons (roE (rCall [true, false] sp_l_draw (rgAs 0 (rgAv (rCB gLen (raCons (roV 3) raNil)) rgA0)))) raNil)))
  (rDrop (rMetF 4 gApp (rfCons (rTup1 (rfCons (rVar 6) (rfCons (rOp2 gIx (roE (rLst1 (rfCons (rC (.int 1)) (rfCons (rC (.int 1)) (rfCons (rC (.int 2)) (rfCons (rC (.int 3)) (rfCons (rOp2 gAddV (roE (rC (.int 1))) (roE (rCall [true, false] sp_l_draw (rgAs 0 (rgAv (rC (.int 9)) rgA0))))) rfNil))))))) (roE (rCall [true, false] sp_l_draw (rgAs 0 (rgAv (rC (.int 5)) rgA0))))) rfNil))) rfNil)))))
  (rSeq (rSet 7 (rCB gSum (raCons (roE (rLc [6, 8] (riSeq (rVar 4)) (rgTup 2 (rgCons (rgName 6) (rgCons (rgName 8) rgNil))) rYes (rVar 8))) raNil)))
  (rRet (rLc [6, 8] (riSeq (rCB (gSortT 2 1099511627776) (raCons (roV 4) raNil))) (rgTup 2 (rgCons (rgName 6) (rgCons (rgName 8) rgNil))) rYes (rTup1 (rfCons (rVar 6) (rfCons (rCall [false, false] sp_l_part (rgAv (rVar 8) (rgAv (rVar 7) rgA0))) rfNil))))))))
theorem rgL_nat (n : Nat) : rgL 0 (n : Int) = (List.range n).map fun i : Nat => D.int i := by
  unfold rgL
  rw [Int.sub_zero, Int.toNat_natCast]
  refine List.map_congr_left fun i _ => ?_
  rw [Int.zero_add]
theorem rp_l_followers (ds : List D) (R : RR) (hl : ds.length = 3) (h : sp_l_followers ds R) : rd_l_followers (rho0 [true, false, false] 0 ds ++ List.replicate (9 - 3) .no) (endsOf [true, false, false] R) := by
  unfold sp_l_followers at h
  obtain ⟨t, n, m, c, rfl, n1, n8, m1, m4, ht, h⟩ := h
  walk_at "z"
  refine ⟨⟨by decide, by decide, by omega, by omega, by omega⟩, ?_⟩
  walk_at "z"
  refine sp_l_draw.mk' (c + 12) ht (by omega) (by omega) fun a t1 a0 a1 ht1 => ?_
  walk_at "zz"
  refine ⟨by omega, ?_⟩
  walk_at "zz"
  refine forL_inv (I := fun items ρ => ∃ (t : Tp) (left : List Nat) (ws : List (Nat × Nat)) (x5 x6 : Sl), ρ = [.io 0 (dT t), .fz (.int n), .fz (.int m), .ow 1 (.lst (left.map fun i : Nat => D.int i)), .ow 1 (.lst (ws.map dP)), x5, x6, .no, .no] ∧ noIo [x5, x6] 0 = true ∧ noIo [x5, x6] 1 = true ∧ (x6 = .no ∨ ∃ d, x6 = .fz d) ∧ t.ok (c + 3 * items.length) ∧ Drw n left ws ∧ ws.length + items.length = (1 + a).toNat) (fun ρ hI => ?_) (fun e es ρ P hP hI => ?_) _ _ ⟨t1, List.range n, [], .no, .no, by rw [← rgL_nat]; rfl, rfl, rfl, .inl rfl, ?_, Drw.start n, ?_⟩
  · obtain ⟨t2, left, ws, x5, x6, rfl, k5, k6, w6, ht2, hd, hlen⟩ := hI
    have hm : min (n : Int) m ≤ m := Int.min_le_right _ _
    have hl4 : ws.length ≤ 4 := by simp at hlen; omega
    have hne : ws ≠ [] := fun z => by rw [z] at hlen; simp at hlen; omega
    obtain ⟨s1, s2⟩ := sum_pos hd.wts
    have hlen0 : 0 < ws.length := List.length_pos_iff.mpr hne
    have hmem : ∀ x ∈ ws.map dP, ∃ ns, x = rowI ns ∧ ns.length = 2 ∧ TS.Bd 1099511627776 ns := fun x hx => by
      obtain ⟨y, hy, rfl⟩ := List.mem_map.mp hx
      refine ⟨[y.1, y.2], rfl, rfl, fun z hz => ?_⟩
      have w1 := hd.wts y hy
      have w2 := hd.lt y.1 (List.mem_append_right _ (List.mem_map.mpr ⟨y, hy, rfl⟩))
      simp only [List.mem_cons, List.not_mem_nil, or_false] at hz
      rcases hz with rfl | rfl <;> omega
    have fin : ∀ zs : List (Nat × Nat), zs.Perm ws → ((zs.map dP).Pairwise fun x y => ∀ n m, x = rowI n → y = rowI m → TS.code 1099511627776 n ≤ TS.code 1099511627776 m) → R (.lst (zs.map fun x => D.tup [.int x.1, dq (Rat.divInt x.2 (ws.map fun x => (x.2 : Int)).sum)])) 1 [dT t2] := fun zs p hp => by
      have k := h _ t2 (fols_ok hd hne hl4 p hp) (ht2.le (by omega))
      rw [List.map_map] at k
      exact k
    generalize hW : (ws.map fun x => (x.2 : Int)).sum = W at *
    rcases w6 with rfl | ⟨d6, rfl⟩
    all_goals
      walk_at "z"
      refine lcL_map' (xs := ws) (g := dP) (f := fun x => D.int x.2) (ρw := [.io 0 (dT t2), .fz (.int n), .fz (.int m), .ow 1 (.lst (left.map fun i : Nat => D.int i)), .fz (.lst (ws.map dP)), x5, .no, .no, .no]) (by omega) (fun x hx n' P N hn' hP => ?_) rfl (fun ρ' h' => ?_)
      · show rgTup 2 (rgCons (rgName 6) (rgCons (rgName 8) rgNil)) (.tup [.int x.1, .int x.2]) _ _
        walk_at "z"
        exact ⟨hn', hP _ rfl⟩
      rw [restE_wipe, h']
      walk_at "z"
      refine ⟨_, intsOf_map (fun x : Nat × Nat => (x.2 : Int)) ws, ?_⟩
      rw [hW]
      walk_at "z"
      refine ⟨by rw [List.length_map]; omega, hmem, fun ys p hp => ?_⟩
      obtain ⟨zs, p2, rfl⟩ := perm_map_inv p rfl
      walk_at "z"
      refine lcL_map' (xs := zs) (g := dP) (f := fun x => D.tup [.int x.1, dq (Rat.divInt x.2 W)]) (ρw := [.io 0 (dT t2), .fz (.int n), .fz (.int m), .ow 1 (.lst (left.map fun i : Nat => D.int i)), .fz (.lst (ws.map dP)), x5, .no, .fz (.int W), .no]) (by rw [p2.length_eq]; omega) (fun x hx n' P N hn' hP => ?_) rfl (fun ρ2 h2 => ?_)
      · have wx := hd.wts x (p2.mem_iff.mp hx)
        show rgTup 2 (rgCons (rgName 6) (rgCons (rgName 8) rgNil)) (.tup [.int x.1, .int x.2]) _ _
        walk_at "z"
        refine sp_l_part.mk (by omega) (Nat.le_trans (bl_small (k := 40) (by omega)) (by decide)) (Nat.le_trans (bl_small (k := 40) (by omega)) (by decide)) ?_
        walk_at "z"
        exact ⟨hn', hP _ rfl⟩
      rw [restE_wipe, h2]
      walk_at "z"
      exact fin zs p2 hp
  · obtain ⟨t2, left, ws, x5, x6, rfl, k5, k6, w6, ht2, hd, hlen⟩ := hI
    rw [List.length_cons] at ht2 hlen
    have hm : min (n : Int) m ≤ n := Int.min_le_left _ _
    have hlt : ws.length < n := by omega
    have hl0 : 0 < left.length := by have := hd.len; omega
    have hll : (left.map fun i : Nat => D.int i).length = left.length := List.length_map ..
    walk_at "z"
    refine ⟨k5, ?_⟩
    walk_at "z"
    refine sp_l_draw.mk' (c + 3 * es.length + 2) (ht2.le (by omega)) (by rw [hll]; omega) (by rw [hll]; have := hd.len; omega) fun b t3 b0 b1 ht3 => ?_
    rw [hll] at b1
    walk_at "z"
    have hix : ixN (left.map fun i : Nat => D.int i).length b = some b.toNat := by
      unfold ixN
      rw [if_pos b0, if_pos (by rw [hll]; exact b1)]
    have hb : b.toNat < left.length := by omega
    have hk : left[b.toNat]? = some left[b.toNat] := List.getElem?_eq_getElem hb
    refine ⟨⟨by omega, by have := hd.len; omega⟩, _, (ixN_seq hix).1, .int (left[b.toNat] : Nat), ?_, ?_⟩
    · rw [List.getElem?_map, hk]; rfl
    rw [map_erase]
    walk_at "z"
    refine ⟨k6, ?_⟩
    walk_at "z"
    refine sp_l_draw.mk' (c + 3 * es.length + 1) (ht3.le (by omega)) (by decide) (by decide) fun g t4 g0 g1 ht4 => ?_
    walk_at "z"
    refine sp_l_draw.mk' (c + 3 * es.length) ht4 (by decide) (by decide) fun y t5 y0 y1 ht5 => ?_
    walk_at "z"
    refine ix_fin y0 y1 fun z hz => ?_
    have hz' : ∃ w : Nat, z = .int (w : Nat) ∧ 1 ≤ w ∧ w ≤ 9 := by
      simp only [List.mem_cons, List.not_mem_nil, or_false] at hz
      rcases hz with rfl | rfl | rfl | rfl | rfl
      · exact ⟨1, rfl, by decide, by decide⟩
      · exact ⟨1, rfl, by decide, by decide⟩
      · exact ⟨2, rfl, by decide, by decide⟩
      · exact ⟨3, rfl, by decide, by decide⟩
      · exact ⟨(1 + g).toNat, by rw [Int.toNat_of_nonneg (by omega)], by omega, by omega⟩
    obtain ⟨w, rfl, w1, w9⟩ := hz'
    walk_at "z"
    refine ⟨smallL (Nat.ble_eq_true_of_le (by rw [List.length_map]; omega)), ?_⟩
    exact hP _ ⟨t5, left.eraseIdx b.toNat, ws ++ [(left[b.toNat], w)], _, _, by rw [List.map_append]; rfl, rfl, rfl, .inr ⟨_, rfl⟩, ht5, hd.next hk w1 w9, by rw [List.length_append]; show ws.length + 1 + es.length = _; omega⟩
  · rw [List.length_map, List.length_range]
    have : (1 + a).toNat ≤ 4 := by
      have : min (n : Int) m ≤ m := Int.min_le_right _ _
      omega
    exact ht1.le (by omega)
  · rw [List.length_map, List.length_range]
    show 0 + (1 + a).toNat = _
    omega
/-! ### lands -/
structure Deed where
  w : List Rat
  fs : List (Nat × Rat)
structure St where
  c : Nat
  e : List Rat
  ds : List Deed
structure Land where
  k : Nat
  sts : List St
def dDeed (d : Deed) : D := .tup [dw d.w, .lst (d.fs.map dF)]
def dSt (s : St) : D := .tup [.int s.c, dw s.e, .lst (s.ds.map dDeed)]
def dLand (l : Land) : D := .tup [.int l.k, .lst (l.sts.map dSt)]
structure DeedN (k n : Nat) (d : Deed) : Prop where
  len : d.w.length = k
  wts : allw 21 d.w
  fol : FolOk n d.fs
structure StN (k n : Nat) (s : St) : Prop where
  c : s.c < k
  len : s.e.length = k
  wts : allw 21 s.e
  few : s.ds.length ≤ 3
  ds : ∀ d ∈ s.ds, DeedN k n d
structure LandN (l : Land) : Prop where
  k1 : 1 ≤ l.k
  k4 : l.k ≤ 4
  n1 : 1 ≤ l.sts.length
  n8 : l.sts.length ≤ 8
  sts : ∀ s ∈ l.sts, StN l.k l.sts.length s
/-- .. the first state of which has deeds -/
structure LandGo (l : Land) : Prop extends LandN l where
  go : ∀ s, l.sts[0]? = some s → s.ds ≠ []
@[irreducible] def sp_l_state : ASp := fun ds R => ∃ (t : Tp) (k n m c : Nat), ds = [dT t, .int k, .int n, .int m] ∧ 1 ≤ k ∧ k ≤ 4 ∧ 1 ≤ n ∧ n ≤ 8 ∧ 1 ≤ m ∧ m ≤ 4 ∧ t.ok (c + 121) ∧ ∀ s t', StN k n s → t'.ok c → R (dSt s) 0 [dT t']
theorem sp_l_state.mk {t : Tp} {k n m : Nat} {R : RR} (c : Nat) (k1 : 1 ≤ k) (k4 : k ≤ 4) (h1 : 1 ≤ n) (h2 : n ≤ 8) (h3 : 1 ≤ m) (h4 : m ≤ 4) (ht : t.ok (c + 121)) (h : ∀ s t', StN k n s → t'.ok c → R (dSt s) 0 [dT t']) : sp_l_state [dT t, .int k, .int n, .int m] R := by
  unfold sp_l_state
  exact ⟨t, k, n, m, c, rfl, k1, k4, h1, h2, h3, h4, ht, h⟩
@[irreducible] def sp_l_land : ASp := fun ds R => ∃ (t : Tp) (k m c : Nat), ds = [dT t, .int k, .int m] ∧ 1 ≤ k ∧ k ≤ 4 ∧ 1 ≤ m ∧ m ≤ 4 ∧ t.ok (c + 1003) ∧ ∀ l t', LandGo l → l.k = k → t'.ok c → R (dLand l) 0 [dT t']
theorem sp_l_land.mk {t : Tp} {k m : Nat} {R : RR} (c : Nat) (k1 : 1 ≤ k) (k4 : k ≤ 4) (h3 : 1 ≤ m) (h4 : m ≤ 4) (ht : t.ok (c + 1003)) (h : ∀ l t', LandGo l → l.k = k → t'.ok c → R (dLand l) 0 [dT t']) : sp_l_land [dT t, .int k, .int m] R := by
  unfold sp_l_land
  exact ⟨t, k, m, c, rfl, k1, k4, h3, h4, ht, h⟩
def rd_l_state : RS := (rSeq (rSet 4 (rLst1 rfNil))
  (rSeq (rFor (riRng1 (rfCons (rOp2 gIx (roE (rLst1 (rfCons (rC (.int 0)) (rfCons (rC (.int 1)) (rfCons (rC (.int 2)) (rfCons (rC (.int 2)) (rfCons (rC (.int 3)) (rfCons (rC (.int 3)) rfNil)))))))) (roE (rCall [true, false] sp_l_draw (rgAs 0 (rgAv (rC (.int 6)) rgA0))))) rfNil)) (rgName 5) (rDrop (rMetF 4 gApp (rfCons (rTup1 (rfCons (rCall [true, false] sp_l_worth (rgAs 0 (rgAv (rVar 1) rgA0))) (rfCons (rCall [true, false, false] sp_l_followers (rgAs 0 (rgAv (rVar 2) (rgAv (rVar 3) rgA0)))) rfNil))) rfNil))))
  (rRet (rTup1 (rfCons (rCall [true, false] sp_l_draw (rgAs 0 (rgAv (rVar 1) rgA0))) (rfCons (rCall [true, false] sp_l_worth (rgAs 0 (rgAv (rVar 1) rgA0))) (rfCons (rVar 4) rfNil)))))))
def rb_l_land_6 : RS := (rRet (rTup1 (rfCons (rVar 1) (rfCons (rVar 5) rfNil))))
@[irreducible] def rd_l_land_6 : RS := rb_l_land_6
theorem rx_l_land_6 : rb_l_land_6 = rd_l_land_6 := by unfold rd_l_land_6; rfl
def rb_l_land_4 : RS := (rSeq (rIf (rTb (rOp2 gEqN (roE (rOp2 gIx (roE (rOp2 gIx (roV 5) (roE (rC (.int 0))))) (roE (rC (.int 2))))) (roE (rLst1 rfNil)))) (rSetIx 5 (rOp2 gAddV (roE (rSl (roE (rOp2 gIx (roV 5) (roE (rC (.int 0))))) rpNone (rpSome (rC (.int 2))))) (roE (rTup1 (rfCons (rLst1 (rfCons (rTup1 (rfCons (rCall [true, false] sp_l_worth (rgAs 0 (rgAv (rVar 1) rgA0))) (rfCons (rCall [true, false, false] sp_l_followers (rgAs 0 (rgAv (rVar 4) (rgAv (rC (.int 2)) rgA0)))) rfNil))) rfNil)) rfNil)))) (rC (.int 0))) rNext)
  rd_l_land_6)
@[irreducible] def rd_l_land_4 : RS := rb_l_land_4
theorem rx_l_land_4 : rb_l_land_4 = rd_l_land_4 := by unfold rd_l_land_4; rfl
def rb_l_land_3 : RS := (rSeq (rSet 5 (rLc [6] (riRng1 (rfCons (rVar 4) rfNil)) (rgName 6) rYes (rCall [true, false, false, false] sp_l_state (rgAs 0 (rgAv (rVar 1) (rgAv (rVar 4) (rgAv (rIfE (rTb (rVar 3)) (rC (.int 4)) (rC (.int 2))) rgA0)))))))
  rd_l_land_4)
@[irreducible] def rd_l_land_3 : RS := rb_l_land_3
theorem rx_l_land_3 : rb_l_land_3 = rd_l_land_3 := by unfold rd_l_land_3; rfl
def rd_l_land : RS := (rSeq (rSet 3 (rOp2 gEq (roE (rCall [true, false] sp_l_draw (rgAs 0 (rgAv (rC (.int 8)) rgA0)))) (roE (rC (.int 0)))))
  (rSeq (rSet 4 (rIfE (rTb (rVar 3)) (rOp2 gAddV (roE (rC (.int 5))) (roE (rCall [true, false] sp_l_draw (rgAs 0 (rgAv (rC (.int 4)) rgA0))))) (rOp2 gAddV (roE (rC (.int 1))) (roE (rCall [true, false] sp_l_draw (rgAs 0 (rgAv (rVar 2) rgA0)))))))
  rd_l_land_3))
theorem rp_l_state (ds : List D) (R : RR) (hl : ds.length = 4) (h : sp_l_state ds R) : rd_l_state (rho0 [true, false, false, false] 0 ds ++ List.replicate (6 - 4) .no) (endsOf [true, false, false, false] R) := by
  unfold sp_l_state at h
  obtain ⟨t, k, n, m, c, rfl, k1, k4, n1, n8, m1, m4, ht, h⟩ := h
  walk_at "z"
  refine sp_l_draw.mk' (c + 120) ht (by decide) (by decide) fun a t1 a0 a1 ht1 => ?_
  walk_at "z"
  refine ix_fin a0 a1 fun z hz => ?_
  have hz' : ∃ j : Nat, z = .int (j : Nat) ∧ j ≤ 3 := by
    simp only [List.mem_cons, List.not_mem_nil, or_false] at hz
    rcases hz with rfl | rfl | rfl | rfl | rfl | rfl
    · exact ⟨0, rfl, by decide⟩
    · exact ⟨1, rfl, by decide⟩
    · exact ⟨2, rfl, by decide⟩
    · exact ⟨2, rfl, by decide⟩
    · exact ⟨3, rfl, by decide⟩
    · exact ⟨3, rfl, by decide⟩
  obtain ⟨j, rfl, hj⟩ := hz'
  walk_at "zz"
  refine ⟨by omega, ?_⟩
  walk_at "zz"
  refine forL_inv (I := fun items ρ => ∃ (t : Tp) (es : List Deed) (x5 : Sl), ρ = [.io 0 (dT t), .fz (.int k), .fz (.int n), .fz (.int m), .ow 1 (.lst (es.map dDeed)), x5] ∧ noIo [x5] 0 = true ∧ t.ok (c + 21 + 33 * items.length) ∧ es.length + items.length ≤ 3 ∧ ∀ d ∈ es, DeedN k n d) (fun ρ hI => ?_) (fun e es' ρ P hP hI => ?_) _ _ ⟨t1, [], .no, rfl, rfl, ?_, ?_, fun d hd => absurd hd List.not_mem_nil⟩
  · obtain ⟨t2, es, x5, rfl, k5, ht2, hlen, hes⟩ := hI
    walk_at "z"
    refine sp_l_draw.mk' (c + 20) (ht2.le (by simp)) (by omega) (by omega) fun b t3 b0 b1 ht3 => ?_
    walk_at "z"
    refine sp_l_worth.mk c (by omega) (ht3.le (by omega)) fun qs t4 hq1 hq2 ht4 => ?_
    walk_at "z"
    have e : (D.int b) = D.int ((b.toNat : Nat) : Int) := by rw [Int.toNat_of_nonneg b0]
    rw [e]
    exact h ⟨b.toNat, qs, es⟩ t4 ⟨by show b.toNat < k; omega, hq1, hq2, by simpa using hlen, hes⟩ ht4
  · obtain ⟨t2, es, x5, rfl, k5, ht2, hlen, hes⟩ := hI
    rw [List.length_cons] at ht2 hlen
    walk_at "z"
    refine ⟨k5, ?_⟩
    walk_at "z"
    refine sp_l_worth.mk (c + 21 + 33 * es'.length + 13) (by omega) (ht2.le (by omega)) fun qs t3 hq1 hq2 ht3 => ?_
    walk_at "z"
    refine sp_l_followers.mk (c + 21 + 33 * es'.length) n1 n8 m1 m4 ht3 fun fs t4 hf ht4 => ?_
    walk_at "z"
    refine ⟨smallL (Nat.ble_eq_true_of_le (by rw [List.length_map]; omega)), ?_⟩
    refine hP _ ⟨t4, es ++ [⟨qs, fs⟩], _, by rw [List.map_append]; rfl, rfl, ht4, by rw [List.length_append]; show es.length + 1 + es'.length ≤ 3; omega, fun d hd => ?_⟩
    rcases List.mem_append.mp hd with hd | hd
    · exact hes d hd
    · rw [List.mem_singleton.mp hd]; exact ⟨hq1, hq2, hf⟩
  · rw [List.length_map, List.length_range]
    exact ht1.le (by omega)
  · rw [List.length_map, List.length_range]
    show 0 + (j : Int).toNat ≤ 3
    omega
theorem rp_l_land (ds : List D) (R : RR) (hl : ds.length = 3) (h : sp_l_land ds R) : rd_l_land (rho0 [true, false, false] 0 ds ++ List.replicate (7 - 3) .no) (endsOf [true, false, false] R) := by
  unfold sp_l_land at h
  obtain ⟨t, k, m, c, rfl, k1, k4, m1, m4, ht, h⟩ := h
  -- the end
  have t4 : ∀ (t : Tp) (n : Nat) (x3 : D) (sts : List St), sts.length = n → 1 ≤ n → n ≤ 8 → (∀ s ∈ sts, StN k n s) → t.ok (c + 33) →
      rd_l_land_4 [.io 0 (dT t), .fz (.int k), .fz (.int m), .fz x3, .fz (.int n), .ow 1 (.lst (sts.map dSt)), .no] (endsOf [true, false, false] R) := by
    intro t n x3 sts hln n1 n8 hst ht
    rw [← rx_l_land_4]
    cases sts with
    | nil => simp at hln; omega
    | cons s0 rest =>
      have h0 := hst s0 (by simp)
      have hgo : ∀ (s1 : St) (t' : Tp), StN k n s1 → s1.ds ≠ [] → t'.ok c → R (.tup [.int k, .lst (dSt s1 :: rest.map dSt)]) 0 [dT t'] := fun s1 t' hs1 hne ht' => by
        refine h ⟨k, s1 :: rest⟩ t' ⟨⟨k1, k4, by simp, by show (s1 :: rest).length ≤ 8; rw [List.length_cons] at hln ⊢; omega, fun s hs => ?_⟩, fun s hs => ?_⟩ rfl ht'
        · have e : (s1 :: rest).length = n := hln
          show StN k (s1 :: rest).length s
          rw [e]
          rcases List.mem_cons.mp hs with rfl | hs
          · exact hs1
          · exact hst s (by simp [hs])
        · cases hs
          exact hne
      walk_at "z"
      refine ⟨dSt s0, atI_nat (j := 0) rfl, ?_⟩
      walk_at "z"
      show way (s0.ds.map dDeed).isEmpty _ _
      cases hE : (s0.ds.map dDeed).isEmpty with
      | false =>
        refine ⟨fun z => Bool.noConfusion z, fun _ => ?_⟩
        walk_at "z"
        rw [← rx_l_land_6]
        walk_at "z"
        refine hgo s0 t h0 (fun z => ?_) (ht.le (by omega))
        rw [z] at hE
        cases hE
      | true =>
        refine ⟨fun _ => ?_, fun z => Bool.noConfusion z⟩
        walk_at "z"
        refine ⟨dSt s0, atI_nat (j := 0) rfl, ?_⟩
        walk_at "z"
        refine ⟨fun z => ?_, ?_⟩
        · exact absurd (show (2 : Nat) = 3 from z.2) (by decide)
        walk_at "z"
        refine sp_l_worth.mk (c + 13) (by omega) (ht.le (by omega)) fun qs t1 hq1 hq2 ht1 => ?_
        walk_at "z"
        refine sp_l_followers.mk (m := 2) c n1 n8 (by decide) (by decide) ht1 fun fs t2 hf ht2 => ?_
        walk_at "z"
        have hix : ixN ((s0 :: rest).map dSt).length 0 = some 0 := by
          unfold ixN
          rw [if_pos (by decide), if_pos (by rw [List.length_map, List.length_cons]; omega)]
          rfl
        refine ⟨(show [D.int s0.c, dw s0.e] ≠ [] from List.cons_ne_nil _ _), smallE rfl, ?_⟩
        walk_at "z"
        refine ⟨0, hix, ?_⟩
        rw [← rx_l_land_6]
        walk_at "z"
        exact hgo ⟨s0.c, s0.e, [⟨qs, fs⟩]⟩ t2 ⟨h0.c, h0.len, h0.wts, by show 1 ≤ 3; decide, fun d hd => by rw [List.mem_singleton.mp hd]; exact ⟨hq1, hq2, hf⟩⟩ (List.cons_ne_nil _ _) ht2
  -- the states
  have t3 : ∀ (t : Tp) (n : Nat) (g : Bool), 1 ≤ n → n ≤ 8 → t.ok (c + 33 + 121 * n) → rd_l_land_3 [.io 0 (dT t), .fz (.int k), .fz (.int m), .fz (.bl g), .fz (.int n), .no, .no] (endsOf [true, false, false] R) := by
    intro t n g n1 n8 ht
    rw [← rx_l_land_3]
    walk_at "z"
    refine ⟨by omega, ?_⟩
    walk_at "z"
    refine lcL_inv (I := fun items acc ρ => ∃ (t : Tp) (sts : List St), wipeE [6] ρ = [.io 0 (dT t), .fz (.int k), .fz (.int m), .fz (.bl g), .fz (.int n), .no, .no] ∧ acc = sts.map dSt ∧ sts.length + items.length = n ∧ t.ok (c + 33 + 121 * items.length) ∧ ∀ s ∈ sts, StN k n s) (fun acc ρ hI => ?_) (fun d ds acc ρ P N hP hN hI => ?_) _ _ _ ⟨t, [], rfl, rfl, ?_, ?_, fun s hs => absurd hs List.not_mem_nil⟩
    · obtain ⟨t1, sts, e1, rfl, hln, ht1, hst⟩ := hI
      rw [restE_wipe, e1]
      refine ⟨rfl, ?_⟩
      exact t4 t1 n _ sts (by simpa using hln) n1 n8 hst (ht1.le (by simp))
    · obtain ⟨t1, sts, e1, rfl, hln, ht1, hst⟩ := hI
      rw [e1]
      rw [List.length_cons] at hln ht1
      have go : ∀ mm : Nat, 1 ≤ mm → mm ≤ 4 → sp_l_state [dT t1, .int k, .int n, .int mm] (fun d1 k1 outs => ∃ ρ2, putAg [.io 0 (dT t1), .fz (.int k), .fz (.int m), .fz (.bl g), .fz (.int n), .no, .fz d] [.s 0, .v (.int k), .v (.int n), .v (.int mm)] outs = some ρ2 ∧ (sts.map dSt).length < sizeLine ∧ P d1 ρ2) := fun mm h1 h2 => by
        refine sp_l_state.mk (c + 33 + 121 * ds.length) k1 k4 n1 n8 h1 h2 (ht1.le (by omega)) fun s t2 hs ht2 => ?_
        refine ⟨_, rfl, smallL (Nat.ble_eq_true_of_le (by rw [List.length_map]; omega)), hP _ _ ⟨t2, sts ++ [s], rfl, by rw [List.map_append]; rfl, by rw [List.length_append]; show sts.length + 1 + ds.length = n; omega, ht2, fun s' hs' => ?_⟩⟩
        rcases List.mem_append.mp hs' with hs' | hs'
        · exact hst s' hs'
        · rw [List.mem_singleton.mp hs']; exact hs
      cases g with
      | true =>
        walk_at "z"
        exact go 4 (by decide) (by decide)
      | false =>
        walk_at "z"
        exact go 2 (by decide) (by decide)
    · rw [List.length_map, List.length_range]; show 0 + (n : Int).toNat = n; omega
    · rw [List.length_map, List.length_range]
      exact ht.le (by omega)
  walk_at "z"
  refine sp_l_draw.mk' (c + 1002) ht (by decide) (by decide) fun a t1 a0 a1 ht1 => ?_
  walk_at "z"
  rw [eqb_int]
  refine ⟨fun z => ?_, fun z => ?_⟩
  · walk_at "z"
    refine sp_l_draw.mk' (c + 1001) ht1 (by decide) (by decide) fun b t2 b0 b1 ht2 => ?_
    walk_at "z"
    have e : (D.int (5 + b)) = D.int (((5 + b).toNat : Nat) : Int) := by rw [Int.toNat_of_nonneg (by omega)]
    rw [e]
    exact t3 t2 (5 + b).toNat _ (by omega) (by omega) (ht2.le (by omega))
  · walk_at "z"
    refine sp_l_draw.mk' (c + 1001) ht1 (by omega) (by omega) fun b t2 b0 b1 ht2 => ?_
    walk_at "z"
    have e : (D.int (1 + b)) = D.int (((1 + b).toNat : Nat) : Int) := by rw [Int.toNat_of_nonneg (by omega)]
    rw [e]
    exact t3 t2 (1 + b).toNat _ (by omega) (by omega) (ht2.le (by omega))
/-! ### wider: to nine deeds, worths of 90 bits -/
structure DeedOk (k n : Nat) (d : Deed) : Prop where
  len : d.w.length = k
  wts : allw 90 d.w
  fol : FolOk n d.fs
structure StOk (k n : Nat) (s : St) : Prop where
  c : s.c < k
  len : s.e.length = k
  wts : allw 21 s.e
  few : s.ds.length ≤ 9
  ds : ∀ d ∈ s.ds, DeedOk k n d
structure LandOk (l : Land) : Prop where
  k1 : 1 ≤ l.k
  k4 : l.k ≤ 4
  n1 : 1 ≤ l.sts.length
  n8 : l.sts.length ≤ 8
  sts : ∀ s ∈ l.sts, StOk l.k l.sts.length s
theorem DeedN.ok {k n : Nat} {d : Deed} (h : DeedN k n d) : DeedOk k n d := ⟨h.len, allw_le h.wts (by decide), h.fol⟩
theorem StN.ok {k n : Nat} {s : St} (h : StN k n s) : StOk k n s := ⟨h.c, h.len, h.wts, Nat.le_trans h.few (by decide), fun d hd => (h.ds d hd).ok⟩
theorem LandN.ok {l : Land} (h : LandN l) : LandOk l := ⟨h.k1, h.k4, h.n1, h.n8, fun s hs => (h.sts s hs).ok⟩
end VL

namespace VL
open PySem PySem.Spec PyProof.Rows L2

/-! ### tuples one behind the other, whichever is empty -/
def gAddA : G2 := fun a b R => match a, b with
  | .int i, .int j => R (.int (i + j)) 0
  | .str x, .str y => x.length + y.length ≤ sizeLine ∧ R (.str (x ++ y)) 0
  | .lst xs, .lst ys => xs.length + ys.length ≤ sizeLine ∧ R (.lst (xs ++ ys)) 1
  | .tup xs, .tup ys => xs.length + ys.length ≤ sizeLine ∧ R (.tup (xs ++ ys)) 0
  | .bl k, .int j => R (.int (bi k + j)) 0
  | .int i, .bl k => R (.int (i + bi k)) 0
  | _, _ => False
def tAddA (K : Fg) : R2 := fun x y H Q => tAddV K x y H Q ∨ rCatA K x y H Q
theorem lk_addA {K : Fg} : Lk2 K (tAddA K) gAddA := fun F H a b x y R Q' s h1 h2 g w => by
  cases a with
  | tup xs =>
    cases b with
    | tup ys =>
      obtain ⟨p, vs, e1, k1, r1⟩ := h1
      obtain ⟨p2, vs2, e2, k2, r2⟩ := h2
      obtain ⟨g1, g⟩ := g
      refine .inr ⟨p, p2, vs, vs2, e1, e2, k1.sq s, k2.sq s, by rw [r1.length, r2.length]; exact g1, fun z => ?_, fun _ z => ?_, fun _ _ q hq => w _ _ _ _ (.tup hq (Reps.app r1 r2)) g⟩
      · subst z
        cases xs with
        | nil => exact w _ _ _ _ (.old (show Rep K F (.tup ys) (.ref p2) from ⟨p2, vs2, rfl, k2, r2⟩)) g
        | cons _ _ => obtain ⟨_, _, e, _⟩ := r1; cases e
      · subst z
        cases ys with
        | nil =>
          rw [List.append_nil] at g
          exact w _ _ _ _ (.old (show Rep K F (.tup xs) (.ref p) from ⟨p, vs, rfl, k1, r1⟩)) g
        | cons _ _ => obtain ⟨_, _, e, _⟩ := r2; cases e
    | _ => exact g.elim
  | int i => cases b <;> first | exact .inl (lk_addV F H _ _ x y R Q' s h1 h2 g w) | exact g.elim
  | bl i => cases b <;> first | exact .inl (lk_addV F H _ _ x y R Q' s h1 h2 g w) | exact g.elim
  | str i => cases b <;> first | exact .inl (lk_addV F H _ _ x y R Q' s h1 h2 g w) | exact g.elim
  | lst i => cases b <;> first | exact .inl (lk_addV F H _ _ x y R Q' s h1 h2 g w) | exact g.elim
  | _ => cases b <;> exact g.elim
theorem ve_addA {X : Cx} {a b : Expr} {pos : Pos} {ra rb : RO} (ha : VO X a ra) (hb : VO X b rb) : VE X (.BinOp a .Add b pos) (rOp2 gAddA ra rb) := ve_op (op_addV.or op_catA) lk_addA ha hb

/-! ### slices of tuples, the whole too -/
def gSlA (d : D) (lo hi : Option Int) (R : D → Nat → Prop) : Prop := match d with
  | .lst ds => R (.lst (cutL ds lo hi)) 1
  | .tup ds => R (.tup (cutL ds lo hi)) 0
  | _ => False
def rSlA2 (ro : RO) (rl rh : RP) : RE := fun ρ Q => ro ρ fun o ρ1 => rl ρ1 fun l ρ2 => rh ρ2 fun u ρ3 => ∃ d, opD ρ3 o = some d ∧ gSlA d l u fun d k => Q d k ρ3
theorem cut_whole {ds : List D} {lo hi : Option Int} (h1 : HT.sIx ds.length 0 lo = 0) (h2 : HT.sIx ds.length ds.length hi = ds.length) : cutL ds lo hi = ds := by
  unfold cutL
  rw [h1, h2, List.drop_zero, Nat.sub_zero, List.take_length]
section
variable {X : Cx} {e : Expr} {pos : Pos}
theorem ve_slA {lo hi : Option Expr} {p2 : Pos} {ro : RO} {rl rh : RP} (ho : VO X e ro) (hl : VP X lo rl) (hh : VP X hi rh) : VE X (.Subscript e (.Slice lo hi none p2) pos) (rSlA2 ro rl rh) := by
  refine PE.weak (pe_slice (sl_list.or sl_tupA) ho hl hh) ?_
  rintro σ H Q' ⟨S, F, ρ, tmp, Q, h, hr, w⟩
  refine tVO.mk h hr fun v H1 ⟨F1, ρ1, o, s1, h1, v1, q1⟩ => ?_
  refine ⟨S, F1, ρ1, tmp, _, h1, q1, fun l H2 ⟨F2, ρ2, s2, h2, q2⟩ => ?_⟩
  refine ⟨S, F2, ρ2, tmp, _, h2, q2, fun u H3 ⟨F3, ρ3, s3, h3, d, e3, q3⟩ => ?_⟩
  have sh := h3.op ((v1.mono s2).mono s3) e3
  have s12 := (s1.trans s2).trans s3
  have sub : Same F3 H3 := by obtain ⟨_, h3⟩ := h3; exact h3.sub
  cases d <;> first | exact q3.elim | skip
  · obtain ⟨p, vs, e1, h5, r⟩ := sh
    refine .inr ⟨p, vs, e1, h5.sq sub, fun z => ?_, fun _ q hq => w _ _ ((Res.post h3 (.tup hq (cutL_reps r)) q3).from s12)⟩
    rw [r.length] at z
    rename_i ds0
    have q3' : Q (.tup (cutL ds0 l u)) 0 ρ3 := q3
    rw [cut_whole z.1 z.2] at q3'
    subst e1
    exact w _ _ ((Res.post h3 (.old (show Rep X.K F3 (.tup _) (.ref p) from ⟨p, vs, rfl, h5, r⟩)) q3').from s12)
  · obtain ⟨p, vs, e1, h5, r⟩ := sh
    exact .inl ⟨p, vs, e1, .inl (.inl h5), fun p hp => w _ _ ((Res.post h3 (.lst hp (cutL_reps r)) q3).from s12)⟩
end
/-! ### a tuple turned about -/
section
variable {prog : Program} {w : World} {A : Around} {E : Value → Shared → Prop} {s : Shared}
end
section
variable {X : Cx} {e : Expr} {pos : Pos}
theorem PE.or {t t' : TE} (h : PE X e t) (h' : PE X e t') : PE X e (fun σ H Q => t σ H Q ∨ t' σ H Q) := ⟨fun pins s σ H Q I q => q.elim (h.run pins s σ H Q I) (h'.run pins s σ H Q I)⟩
end
end VL

set_option maxHeartbeats 2000000
namespace VL
open PySem
open PySem.Sem (wp)

/-! ### zip of a tuple and a list -/
/-- a kind of row: its iterators, the row itself -/
structure Kd (It : Heap → Addr → Addr → Nat → Prop) (Sq : Heap → Addr → Array Value → Prop) : Prop where
  itX : ∀ {g g' : Heap} {c it l : Addr} {i : Nat}, It g it l i → Heap.ExtBut c g g' → it ≠ c → It g' it l i
  sqX : ∀ {g g' : Heap} {c l : Addr} {xs : Array Value}, Sq g l xs → Heap.ExtBut c g g' → l ≠ c → Sq g' l xs
  itAt : ∀ {g g' : Heap} {it l : Addr} {i : Nat}, It g it l i → (∀ o, g.get? it = some o → g'.get? it = some o) → It g' it l i
  itGet : ∀ {g : Heap} {it l : Addr} {i : Nat}, It g it l i → ∃ o, g.get? it = some o ∧ ∀ v, o.data ≠ .cell v
  item : ∀ {prog : Program} {w : World} {A : Around} {E : Value → Shared → Prop} {s : Shared} {it l : Addr} {i : Nat} {items : Array Value} {x : Value} {Q : Value → Shared → Prop}, It s.heap it l i → Sq s.heap l items → items[i]? = some x →
    (∀ g, It g it l (i + 1) → Heap.SameBut it s.heap g → Q x { s with heap := g }) → wpAny (model prog w) A (Builtin.SmallTypes.nextOf (.ref it)) Q E s
  fin : ∀ {prog : Program} {w : World} {A : Around} {E : Value → Shared → Prop} {s : Shared} {it l : Addr} {i : Nat} {items : Array Value} {Q : Value → Shared → Prop}, A.handled = none → It s.heap it l i → Sq s.heap l items → items[i]? = none →
    (∀ g e, Heap.ExtBut it s.heap g → (∃ o, g.get? e = some o ∧ o.cls = .type "StopIteration") → E (.ref e) { s with heap := g }) → wpAny (model prog w) A (Builtin.SmallTypes.nextOf (.ref it)) Q E s
theorem kdL : Kd Heap.IsListIter Heap.IsList :=
  ⟨fun x => x.extBut, fun x => x.extBut, fun x => x.at, fun ⟨o, e, _, d⟩ => ⟨o, e, fun v q => by rw [d] at q; cases q⟩, fun h1 h2 h3 h4 => wpAny_nextOf_list_item h1 h2 h3 h4, fun h0 h1 h2 h3 h4 => wpAny_nextOf_list_end h0 h1 h2 h3 h4⟩
theorem kdT : Kd Heap.IsTupleIter Heap.IsTuple :=
  ⟨fun x => x.extBut, fun x => x.extBut, fun x => x.at, fun ⟨o, e, _, d⟩ => ⟨o, e, fun v q => by rw [d] at q; cases q⟩, fun h1 h2 h3 h4 => RZ.nextOf_tuple_item h1 h2 h3 h4, fun h0 h1 h2 h3 h4 => RZ.nextOf_tuple_end h0 h1 h2 h3 h4⟩
section
variable {prog : Program} {w : World} {A : Around} {E : Value → Shared → Prop} {s : Shared} {It1 It2 : Heap → Addr → Addr → Nat → Prop} {Sq1 Sq2 : Heap → Addr → Array Value → Prop}
theorem zipK_item (k1 : Kd It1 Sq1) (k2 : Kd It2 Sq2) {z TI TO i1 i2 l1 l2 : Addr} {n1 n2 : Nat} {xs ys : Array Value} {x y a b : Value} {Q : Value → Shared → Prop} (D : ZipApart z TI TO i1 i2 l1 l2)
    (hz : IsZip s.heap z TI TO .none) (hTI : IsPair s.heap TI (.ref i1) (.ref i2)) (hTO : IsPair s.heap TO a b) (t1 : It1 s.heap i1 l1 n1) (t2 : It2 s.heap i2 l2 n2) (q1 : Sq1 s.heap l1 xs) (q2 : Sq2 s.heap l2 ys) (hx : xs[n1]? = some x) (hy : ys[n2]? = some y)
    (hQ : ∀ g, IsZip g z TI TO (rawInt s.heap.objs.size) → IsPair g TO x y → It1 g i1 l1 (n1 + 1) → It2 g i2 l2 (n2 + 1) → IsPair g s.heap.objs.size x y → g.objs.size = s.heap.objs.size + 1 →
      (∀ c o, c ≠ z → c ≠ TO → c ≠ i1 → c ≠ i2 → s.heap.get? c = some o → g.get? c = some o) → Q (.ref s.heap.objs.size) { s with heap := g }) :
    wpAny (model prog w) A (Builtin.«zip.__next__» ⟨[.ref z], []⟩) (fun fn s2 => ∃ v, fn = .done (.ret v) ∧ Q v s2) E s := by
  show wpAny _ _ (field (.ref z) 2 >>= _) _ _ _
  refine wpAny_bind (wpAny_field hz rfl (x := .bool false) rfl ?_)
  show wpAny _ _ (field (.ref z) 3 >>= _) _ _ _
  refine wpAny_bind (wpAny_field hz rfl (x := .ref TI) rfl (wpAny_bind (wpAny_seqItems hTI rfl ?_)))
  show wpAny _ _ (Builtin.SmallTypes.ownedTupleIsFree (.ref z) >>= _) _ _ _
  refine wpAny_bind ?_
  unfold Builtin.SmallTypes.ownedTupleIsFree
  refine wpAny_bind (wpAny_field hz rfl (x := .none) rfl (wpAny_pure ?_))
  simp only [if_true]
  refine wpAny_bind (wpAny_rule (wpAny_bind (wpAny_field hz rfl (x := .ref TO) rfl (wpAny_bind (wpAny_setField_rec hz (by simp) ?_)))))
  intro g1 z1 u1
  replace z1 : IsZip g1 z TI TO .ellipsis := z1
  refine wpAny_bind ?_
  simp only [List.zipIdx_cons, List.zipIdx_nil, List.forIn_cons, List.forIn_nil]
  -- the first
  refine wpAny_bind (wpAny_bind (wpAny_onRaise ?_))
  show wpAny _ _ (Builtin.SmallTypes.nextOf (.ref i1) >>= _) _ _ _
  refine wpAny_bind (k1.item (k1.itX t1 u1.extBut D.i1z) (k1.sqX q1 u1.extBut D.l1z) hx ?_)
  intro g2 a2 u2
  refine wpAny_pure ?_
  have o2 : IsPair g2 TO a b := u2.extBut _ _ D.TOi1 (u1.extBut _ _ D.TOz hTO)
  refine wpAny_bind (wpAny_seqItems o2 rfl (wpAny_bind (wpAny_updateSeq_pair o2 ?_)))
  intro g3 o3 u3
  replace o3 : IsPair g3 TO x b := o3
  refine wpAny_bind (wpAny_letGo (wpAny_pure (wpAny_bind (wpAny_bind (wpAny_onRaise ?_)))))
  -- the second
  show wpAny _ _ (Builtin.SmallTypes.nextOf (.ref i2) >>= _) _ _ _
  have t23 := k2.itX (k2.itX (k2.itX t2 u1.extBut D.i2z) u2.extBut D.i12.symm) u3.extBut D.TOi2.symm
  have q23 := k2.sqX (k2.sqX (k2.sqX q2 u1.extBut D.l2z) u2.extBut D.l2i1) u3.extBut D.l2TO
  refine wpAny_bind (k2.item t23 q23 hy ?_)
  intro g4 a4 u4
  refine wpAny_pure ?_
  have o4 : IsPair g4 TO x b := u4.extBut _ _ D.TOi2 o3
  refine wpAny_bind (wpAny_seqItems o4 rfl (wpAny_bind (wpAny_updateSeq_pair o4 ?_)))
  intro g5 o5 u5
  replace o5 : IsPair g5 TO x y := o5
  refine wpAny_bind (wpAny_letGo (wpAny_pure (wpAny_pure (wpAny_bind (wpAny_seqItems o5 rfl (wpAny_bind (wpAny_newTuple ?_)))))))
  have hsz : g5.objs.size = s.heap.objs.size := by rw [u5.1, u4.1, u3.1, u2.1, u1.1]
  have z5 : IsZip g5 z TI TO .ellipsis := u5.extBut _ _ D.TOz.symm (u4.extBut _ _ D.i2z.symm (u3.extBut _ _ D.TOz.symm (u2.extBut _ _ D.i1z.symm z1)))
  have keep5 : ∀ c o, c ≠ z → c ≠ TO → c ≠ i1 → c ≠ i2 → s.heap.get? c = some o → g5.get? c = some o := by
    intro c o c1 c2 c3 c4 m
    exact u5.extBut _ _ c2 (u4.extBut _ _ c4 (u3.extBut _ _ c2 (u2.extBut _ _ c3 (u1.extBut _ _ c1 m))))
  have a5 : It1 g5 i1 l1 (n1 + 1) := k1.itX (k1.itX (k1.itX a2 u3.extBut D.TOi1.symm) u4.extBut D.i12) u5.extBut D.TOi1.symm
  have b5 : It2 g5 i2 l2 (n2 + 1) := k2.itX a4 u5.extBut D.TOi2.symm
  have zlt : z < g5.objs.size := Heap.lt_size z5
  show wpAny _ _ (Builtin.SmallTypes.ownedTupleHandOut (.ref z) (.ref g5.objs.size) >>= _) _ _ _
  refine wpAny_bind ?_
  unfold Builtin.SmallTypes.ownedTupleHandOut
  have z6 : IsZip (g5.push { cls := .type "tuple", data := .seq #[x, y] }) z TI TO .ellipsis := Heap.get?_push_of_some _ z5
  refine wpAny_bind (wpAny_setField_rec z6 (by simp) ?_)
  intro g7 z7 u7
  replace z7 : IsZip g7 z TI TO (rawInt g5.objs.size) := z7
  refine wpAny_setField_rec z7 (by simp) ?_
  intro g8 z8 u8
  replace z8 : IsZip g8 z TI TO (rawInt g5.objs.size) := z8
  have up : ∀ c o, c ≠ z → g5.get? c = some o → g8.get? c = some o := fun c o c1 m => u8.extBut _ _ c1 (u7.extBut _ _ c1 (Heap.get?_push_of_some _ m))
  have p8 : IsPair g8 g5.objs.size x y := u8.extBut _ _ (Nat.ne_of_gt zlt) (u7.extBut _ _ (Nat.ne_of_gt zlt) (Heap.get?_push_size _ rfl))
  have n8 : g8.objs.size = g5.objs.size + 1 := by rw [u8.1, u7.1, Heap.size_push]
  rw [hsz] at z8 p8 n8
  refine wpAny_pure ⟨_, rfl, ?_⟩
  show Q (.ref g5.objs.size) _
  rw [hsz]
  exact hQ g8 z8 (up _ _ D.TOz o5) (k1.itAt a5 fun o m => up _ o D.i1z m) (k2.itAt b5 fun o m => up _ o D.i2z m) p8 n8 fun c o c1 c2 c3 c4 m => up c o c1 (keep5 c o c1 c2 c3 c4 m)
theorem zipK_end (k1 : Kd It1 Sq1) (k2 : Kd It2 Sq2) {z TI TO i1 i2 l1 l2 : Addr} {n1 n2 : Nat} {xs ys : Array Value} {a b : Value} {Q : Fin → Shared → Prop} (hh : A.handled = none) (D : ZipApart z TI TO i1 i2 l1 l2)
    (hz : IsZip s.heap z TI TO .none) (hTI : IsPair s.heap TI (.ref i1) (.ref i2)) (hTO : IsPair s.heap TO a b) (t1 : It1 s.heap i1 l1 n1) (t2 : It2 s.heap i2 l2 n2) (q1 : Sq1 s.heap l1 xs) (q2 : Sq2 s.heap l2 ys) (he : xs[n1]? = none ∨ ys[n2]? = none)
    (hE : ∀ g e, (∀ c o, c ≠ z → c ≠ TO → c ≠ i1 → c ≠ i2 → s.heap.get? c = some o → g.get? c = some o) → (∃ o, g.get? e = some o ∧ o.cls = .type "StopIteration") → E (.ref e) { s with heap := g }) :
    wpAny (model prog w) A (Builtin.«zip.__next__» ⟨[.ref z], []⟩) Q E s := by
  show wpAny _ _ (field (.ref z) 2 >>= _) _ _ _
  refine wpAny_bind (wpAny_field hz rfl (x := .bool false) rfl ?_)
  show wpAny _ _ (field (.ref z) 3 >>= _) _ _ _
  refine wpAny_bind (wpAny_field hz rfl (x := .ref TI) rfl (wpAny_bind (wpAny_seqItems hTI rfl ?_)))
  show wpAny _ _ (Builtin.SmallTypes.ownedTupleIsFree (.ref z) >>= _) _ _ _
  refine wpAny_bind ?_
  unfold Builtin.SmallTypes.ownedTupleIsFree
  refine wpAny_bind (wpAny_field hz rfl (x := .none) rfl (wpAny_pure ?_))
  simp only [if_true]
  refine wpAny_bind (wpAny_rule (wpAny_bind (wpAny_field hz rfl (x := .ref TO) rfl (wpAny_bind (wpAny_setField_rec hz (by simp) ?_)))))
  intro g1 z1 u1
  replace z1 : IsZip g1 z TI TO .ellipsis := z1
  refine wpAny_bind ?_
  simp only [List.zipIdx_cons, List.zipIdx_nil, List.forIn_cons, List.forIn_nil]
  refine wpAny_bind (wpAny_bind (wpAny_onRaise ?_))
  show wpAny _ _ (Builtin.SmallTypes.nextOf (.ref i1) >>= _) _ _ _
  cases hx : xs[n1]? with
  | none =>
    refine wpAny_bind (k1.fin hh (k1.itX t1 u1.extBut D.i1z) (k1.sqX q1 u1.extBut D.l1z) hx ?_)
    rintro g2 e u2 ⟨oe, m1, m2⟩
    have z2 : IsZip g2 z TI TO .ellipsis := u2 _ _ D.i1z.symm z1
    have ez : e ≠ z := by
      rintro rfl
      rw [z2] at m1
      cases m1
      simp at m2
    refine wpAny_setField_rec z2 (by simp) ?_
    intro g3 _ u3
    exact hE g3 e (fun c o c1 _ c3 _ m => u3.extBut _ _ c1 (u2 _ _ c3 (u1.extBut _ _ c1 m))) ⟨oe, u3.extBut _ _ ez m1, m2⟩
  | some x =>
    have hy : ys[n2]? = none := he.resolve_left (by rw [hx]; exact nofun)
    refine wpAny_bind (k1.item (k1.itX t1 u1.extBut D.i1z) (k1.sqX q1 u1.extBut D.l1z) hx ?_)
    intro g2 a2 u2
    refine wpAny_pure ?_
    have o2 : IsPair g2 TO a b := u2.extBut _ _ D.TOi1 (u1.extBut _ _ D.TOz hTO)
    refine wpAny_bind (wpAny_seqItems o2 rfl (wpAny_bind (wpAny_updateSeq_pair o2 ?_)))
    intro g3 o3 u3
    refine wpAny_bind (wpAny_letGo (wpAny_pure (wpAny_bind (wpAny_bind (wpAny_onRaise ?_)))))
    show wpAny _ _ (Builtin.SmallTypes.nextOf (.ref i2) >>= _) _ _ _
    have t23 := k2.itX (k2.itX (k2.itX t2 u1.extBut D.i2z) u2.extBut D.i12.symm) u3.extBut D.TOi2.symm
    have q23 := k2.sqX (k2.sqX (k2.sqX q2 u1.extBut D.l2z) u2.extBut D.l2i1) u3.extBut D.l2TO
    refine wpAny_bind (k2.fin hh t23 q23 hy ?_)
    rintro g4 e u4 ⟨oe, m1, m2⟩
    have z4 : IsZip g4 z TI TO .ellipsis := u4 _ _ D.i2z.symm (u3.extBut _ _ D.TOz.symm (u2.extBut _ _ D.i1z.symm z1))
    have ez : e ≠ z := by
      rintro rfl
      rw [z4] at m1
      cases m1
      simp at m2
    refine wpAny_setField_rec z4 (by simp) ?_
    intro g5 _ u5
    exact hE g5 e (fun c o c1 c2 c3 c4 m => u5.extBut _ _ c1 (u4 _ _ c4 (u3.extBut _ _ c2 (u2.extBut _ _ c3 (u1.extBut _ _ c1 m))))) ⟨oe, u5.extBut _ _ ez m1, m2⟩
theorem nextK_item (k1 : Kd It1 Sq1) (k2 : Kd It2 Sq2) {z TI TO i1 i2 l1 l2 : Addr} {n1 n2 : Nat} {xs ys : Array Value} {x y a b : Value} {Q : Option Value → Shared → Prop} (D : ZipApart z TI TO i1 i2 l1 l2)
    (hz : IsZip s.heap z TI TO .none) (hTI : IsPair s.heap TI (.ref i1) (.ref i2)) (hTO : IsPair s.heap TO a b) (t1 : It1 s.heap i1 l1 n1) (t2 : It2 s.heap i2 l2 n2) (q1 : Sq1 s.heap l1 xs) (q2 : Sq2 s.heap l2 ys) (hx : xs[n1]? = some x) (hy : ys[n2]? = some y)
    (hQ : ∀ g, IsZip g z TI TO (rawInt s.heap.objs.size) → IsPair g TO x y → It1 g i1 l1 (n1 + 1) → It2 g i2 l2 (n2 + 1) → IsPair g s.heap.objs.size x y → g.objs.size = s.heap.objs.size + 1 →
      (∀ c o, c ≠ z → c ≠ TO → c ≠ i1 → c ≠ i2 → s.heap.get? c = some o → g.get? c = some o) → Q (some (.ref s.heap.objs.size)) { s with heap := g }) : wpAny (model prog w) A (pyNext (.ref z)) Q E s := by
  have hT : s.TypeIs (.ref z) "zip" := ⟨_, hz, rfl⟩
  unfold pyNext
  refine wpAny_bind (wpAny_attempt (wpAny_callSpecial?_slot (name := Str.ofString "__next__") hT F.slot_zip_next (wpAny_call_entry F.slot_zip_next hT F.entry_zip_next ?_ (F.args_zip_next_1 _))))
  exact zipK_item k1 k2 D hz hTI hTO t1 t2 q1 q2 hx hy fun g a1 a2 a3 a4 a5 a6 a7 => wpAny_pure (hQ g a1 a2 a3 a4 a5 a6 a7)
theorem nextK_end (k1 : Kd It1 Sq1) (k2 : Kd It2 Sq2) {z TI TO i1 i2 l1 l2 : Addr} {n1 n2 : Nat} {xs ys : Array Value} {a b : Value} {Q : Option Value → Shared → Prop} (hh : A.handled = none) (D : ZipApart z TI TO i1 i2 l1 l2)
    (hz : IsZip s.heap z TI TO .none) (hTI : IsPair s.heap TI (.ref i1) (.ref i2)) (hTO : IsPair s.heap TO a b) (t1 : It1 s.heap i1 l1 n1) (t2 : It2 s.heap i2 l2 n2) (q1 : Sq1 s.heap l1 xs) (q2 : Sq2 s.heap l2 ys) (he : xs[n1]? = none ∨ ys[n2]? = none)
    (hQ : ∀ g, (∀ c o, c ≠ z → c ≠ TO → c ≠ i1 → c ≠ i2 → s.heap.get? c = some o → g.get? c = some o) → Q none { s with heap := g }) : wpAny (model prog w) A (pyNext (.ref z)) Q E s := by
  have hT : s.TypeIs (.ref z) "zip" := ⟨_, hz, rfl⟩
  unfold pyNext
  refine wpAny_bind (wpAny_attempt (wpAny_callSpecial?_slot (name := Str.ofString "__next__") hT F.slot_zip_next (wpAny_call_entry F.slot_zip_next hT F.entry_zip_next ?_ (F.args_zip_next_1 _))))
  refine zipK_end k1 k2 hh D hz hTI hTO t1 t2 q1 q2 he ?_
  rintro g e hk ⟨o, m1, m2⟩
  exact wpAny_bind (wpAny_isInstance (T := "StopIteration") (b := true) ⟨o, m1, m2⟩ isSubtype_stop (wpAny_pure (hQ _ hk)))
end
end VL

set_option maxHeartbeats 2000000
namespace VL
open PySem
open PySem.Sem (wp)
/-! ### zip made of two rows of any kind -/
abbrev zk1 (n1 : String) (g : Heap) (l1 : Addr) : Heap := g.push { cls := .type n1, data := .fields #[.ref l1, .int 0 0] }
abbrev zk2 (n1 n2 : String) (g : Heap) (l1 l2 : Addr) : Heap := (zk1 n1 g l1).push { cls := .type n2, data := .fields #[.ref l2, .int 0 0] }
abbrev zk3 (n1 n2 : String) (g : Heap) (l1 l2 : Addr) : Heap := (zk2 n1 n2 g l1 l2).push { cls := .type "tuple", data := .seq #[.ref g.objs.size, .ref (zk1 n1 g l1).objs.size] }
abbrev zk4 (n1 n2 : String) (g : Heap) (l1 l2 : Addr) : Heap := (zk3 n1 n2 g l1 l2).push { cls := .type "tuple", data := .seq #[.none, .none] }
abbrev zk5 (n1 n2 : String) (g : Heap) (l1 l2 : Addr) : Heap := (zk4 n1 n2 g l1 l2).push { cls := .type "zip", data := .fields #[.none, .bool false, .bool false, .ref (zk2 n1 n2 g l1 l2).objs.size, .ref (zk3 n1 n2 g l1 l2).objs.size] }
theorem zip_newTL (l1 l2 : Addr) (xs ys : Array Value) : Meets (Builtin.«zip.__new__» ⟨[.type "zip", .ref l1, .ref l2], []⟩) (fun _ R s => s.heap.IsTuple l1 xs ∧ s.heap.IsList l2 ys ∧
    R (.ok (.ret (.ref (zk4 "tuple_iterator" "list_iterator" s.heap l1 l2).objs.size))) { s with heap := zk5 "tuple_iterator" "list_iterator" s.heap l1 l2 }) :=
  .of_wp fun prog w A R s h => by
    obtain ⟨g, e1, e2, e3, e4⟩ := s
    obtain ⟨h1, h2, h⟩ := h
    have hsub := sub_zip
    have m1 : Heap.IsTuple (Shared.heap ⟨g, e1, e2, e3, e4⟩) l1 xs := h1
    have m2 : Heap.IsList (Shared.heap ⟨g.push { cls := .type "tuple_iterator", data := .fields #[.ref l1, .int 0 0] }, e1, e2, e3, e4⟩) l2 ys := Heap.IsList.push h2 _
    wp_walk using wpAny_pyIter_tuple m1, wpAny_pyIter_list m2
    exact ⟨_, rfl, h⟩
theorem zip_newLT (l1 l2 : Addr) (xs ys : Array Value) : Meets (Builtin.«zip.__new__» ⟨[.type "zip", .ref l1, .ref l2], []⟩) (fun _ R s => s.heap.IsList l1 xs ∧ s.heap.IsTuple l2 ys ∧
    R (.ok (.ret (.ref (zk4 "list_iterator" "tuple_iterator" s.heap l1 l2).objs.size))) { s with heap := zk5 "list_iterator" "tuple_iterator" s.heap l1 l2 }) :=
  .of_wp fun prog w A R s h => by
    obtain ⟨g, e1, e2, e3, e4⟩ := s
    obtain ⟨h1, h2, h⟩ := h
    have hsub := sub_zip
    have m1 : Heap.IsList (Shared.heap ⟨g, e1, e2, e3, e4⟩) l1 xs := h1
    have m2 : Heap.IsTuple (Shared.heap ⟨g.push { cls := .type "list_iterator", data := .fields #[.ref l1, .int 0 0] }, e1, e2, e3, e4⟩) l2 ys := Heap.IsTuple.push h2 _
    wp_walk using wpAny_pyIter_list m1, wpAny_pyIter_tuple m2
    exact ⟨_, rfl, h⟩
section
variable {prog : Program} {w : World} {A : Around} {E : Value → Shared → Prop} {s : Shared}
/-- how the heap stands behind zip(l1, l2) -/
def ZipMade (n1 n2 : String) (g0 : Heap) (l1 l2 : Addr) (g : Heap) : Prop := IsZip g (g0.objs.size + 4) (g0.objs.size + 2) (g0.objs.size + 3) .none ∧ IsPair g (g0.objs.size + 2) (.ref g0.objs.size) (.ref (g0.objs.size + 1)) ∧ IsPair g (g0.objs.size + 3) .none .none ∧
  (∃ o, g.get? g0.objs.size = some o ∧ o.cls = .type n1 ∧ o.data = .fields #[.ref l1, .int 0 0]) ∧ (∃ o, g.get? (g0.objs.size + 1) = some o ∧ o.cls = .type n2 ∧ o.data = .fields #[.ref l2, .int 0 0]) ∧ ∀ c o, g0.get? c = some o → g.get? c = some o
theorem zip_made (n1 n2 : String) (g0 : Heap) (l1 l2 : Addr) : ZipMade n1 n2 g0 l1 l2 (zk5 n1 n2 g0 l1 l2) ∧ (zk4 n1 n2 g0 l1 l2).objs.size = g0.objs.size + 4 := by
  have s1 : (zk1 n1 g0 l1).objs.size = g0.objs.size + 1 := Heap.size_push ..
  have s2 : (zk2 n1 n2 g0 l1 l2).objs.size = g0.objs.size + 2 := by rw [Heap.size_push, s1]
  have s3 : (zk3 n1 n2 g0 l1 l2).objs.size = g0.objs.size + 3 := by rw [Heap.size_push, s2]
  have s4 : (zk4 n1 n2 g0 l1 l2).objs.size = g0.objs.size + 4 := by rw [Heap.size_push, s3]
  have b5 : (zk5 n1 n2 g0 l1 l2).get? (zk4 n1 n2 g0 l1 l2).objs.size = some _ := Heap.get?_push_size _ rfl
  have b4 : (zk5 n1 n2 g0 l1 l2).get? (zk3 n1 n2 g0 l1 l2).objs.size = some _ := Heap.get?_push_of_some _ (Heap.get?_push_size _ rfl)
  have b3 : (zk5 n1 n2 g0 l1 l2).get? (zk2 n1 n2 g0 l1 l2).objs.size = some _ := Heap.get?_push_of_some _ (Heap.get?_push_of_some _ (Heap.get?_push_size _ rfl))
  have b2 : (zk5 n1 n2 g0 l1 l2).get? (zk1 n1 g0 l1).objs.size = some _ := Heap.get?_push_of_some _ (Heap.get?_push_of_some _ (Heap.get?_push_of_some _ (Heap.get?_push_size _ rfl)))
  have b1 : (zk5 n1 n2 g0 l1 l2).get? g0.objs.size = some _ := Heap.get?_push_of_some _ (Heap.get?_push_of_some _ (Heap.get?_push_of_some _ (Heap.get?_push_of_some _ (Heap.get?_push_size _ rfl))))
  rw [s2, s3, s4] at b5
  rw [s1, s2] at b3
  rw [s3] at b4
  rw [s1] at b2
  exact ⟨⟨b5, b3, b4, ⟨_, b1, rfl, rfl⟩, ⟨_, b2, rfl, rfl⟩, fun c o m => Heap.get?_push_of_some _ (Heap.get?_push_of_some _ (Heap.get?_push_of_some _ (Heap.get?_push_of_some _ (Heap.get?_push_of_some _ m))))⟩, s4⟩
theorem call_zipTL {l1 l2 : Addr} {xs ys : Array Value} {Q : Value → Shared → Prop} (h1 : s.heap.IsTuple l1 xs) (h2 : s.heap.IsList l2 ys) (h : ∀ g, ZipMade "tuple_iterator" "list_iterator" s.heap l1 l2 g → Q (.ref (s.heap.objs.size + 4)) { s with heap := g }) :
    wpAny (model prog w) A (call (.type "zip") [.ref l1, .ref l2]) Q E s := by
  refine callType_new F.called_zip (by decide) (F.typeCall_zip_2 _ _) (F.newCall_zip_2 _ _) (fun obj => F.args_object_init_3 obj _ _) F.entry_zip_new (zip_newTL l1 l2 xs ys) ⟨h1, h2, ?_⟩
  obtain ⟨m, e⟩ := zip_made "tuple_iterator" "list_iterator" s.heap l1 l2
  have hz := m.1
  show _ ∧ _
  rw [e]
  exact ⟨⟨_, hz, rfl⟩, h _ m⟩
theorem call_zipLT {l1 l2 : Addr} {xs ys : Array Value} {Q : Value → Shared → Prop} (h1 : s.heap.IsList l1 xs) (h2 : s.heap.IsTuple l2 ys) (h : ∀ g, ZipMade "list_iterator" "tuple_iterator" s.heap l1 l2 g → Q (.ref (s.heap.objs.size + 4)) { s with heap := g }) :
    wpAny (model prog w) A (call (.type "zip") [.ref l1, .ref l2]) Q E s := by
  refine callType_new F.called_zip (by decide) (F.typeCall_zip_2 _ _) (F.newCall_zip_2 _ _) (fun obj => F.args_object_init_3 obj _ _) F.entry_zip_new (zip_newLT l1 l2 xs ys) ⟨h1, h2, ?_⟩
  obtain ⟨m, e⟩ := zip_made "list_iterator" "tuple_iterator" s.heap l1 l2
  have hz := m.1
  show _ ∧ _
  rw [e]
  exact ⟨⟨_, hz, rfl⟩, h _ m⟩
end
end VL

set_option maxHeartbeats 2000000
namespace VL
open PySem PySem.Spec PyProof.Rows L2
/-- a kind of row, among the tracked ones -/
structure Kv (Sv : Fg → Hp → Addr → List V → Prop) (Sq : Heap → Addr → Array Value → Prop) : Prop where
  to : ∀ {X : Cx} {pins : List (Addr × Obj)} {σ : L2.St} {H : Hp} {s : Shared} {a : Addr} {xs : List V}, Inv X pins σ H s → Sv X.K H a xs → ∃ its, Vals xs its ∧ Sq s.heap a its.toArray ∧ a < s.heap.objs.size
  inj : ∀ {X : Cx} {pins : List (Addr × Obj)} {σ : L2.St} {H : Hp} {s : Shared} {a : Addr} {xs ys : List V}, Inv X pins σ H s → Sv X.K H a xs → Sv X.K H a ys → xs = ys
theorem kvL : Kv SqL Heap.IsList := ⟨fun I h => let ⟨its, r, p, _⟩ := I.list h; ⟨its, r, p.isList, p.lt⟩, fun I h1 h2 => I.list_inj h1 h2⟩
theorem kvT : Kv SqT Heap.IsTuple := ⟨fun I h => let ⟨its, r, p, _⟩ := I.tuple h; ⟨its, r, p, let ⟨o, e, _⟩ := id p; Heap.lt_size e⟩, fun I h1 h2 => I.tuple_inj h1 h2⟩
section
variable {P : Program} {w : World} {K : Fg} {S1 S2 : Fg → Hp → Addr → List V → Prop} {It1 It2 : Heap → Addr → Addr → Nat → Prop} {Sq1 Sq2 : Heap → Addr → Array Value → Prop}
def ItzK (S1 S2 : Fg → Hp → Addr → List V → Prop) (K : Fg) (a b : Addr) : It where
  go := fun i H => ∃ (xs ys : List V) (x y : V), S1 K H a xs ∧ S2 K H b ys ∧ xs[i]? = some x ∧ ys[i]? = some y
  yld := fun i H v H2 => ∃ T x y, v = .ref T ∧ H T = none ∧ H2 = upd H T (.tup [x, y]) ∧ (∀ xs, S1 K H a xs → xs[i]? = some x) ∧ ∀ ys, S2 K H b ys → ys[i]? = some y
  stop := fun i H => ∃ xs ys : List V, S1 K H a xs ∧ S2 K H b ys ∧ (xs.length ≤ i ∨ ys.length ≤ i)
theorem five {z TI TO i1 i2 c : Addr} (h : c ∈ [z, TI, TO, i1, i2]) : c = z ∨ c = TI ∨ c = TO ∨ c = i1 ∨ c = i2 := by simpa using h
theorem turn_zipK (k1 : Kd It1 Sq1) (k2 : Kd It2 Sq2) (v1 : Kv S1 Sq1) (v2 : Kv S2 Sq2) {elts : List Expr} {kk : Nat} {tpos : Pos} {a b z TI TO i1 i2 : Addr} (D : ZipApart z TI TO i1 i2 a b) :
    Turn P w K (.Tuple elts kk tpos) (ItzK S1 S2 K a b) [z, TI, TO, i1, i2] z (fun i g => IsZip g z TI TO .none ∧ IsPair g TI (.ref i1) (.ref i2) ∧ (∃ x y, IsPair g TO x y) ∧ It1 g i1 a i ∧ It2 g i2 b i) where
  mem := by simp
  obj := by
    rintro i g ⟨hz, hI, ⟨x, y, hO⟩, t1, t2⟩ c hc
    rcases five hc with rfl | rfl | rfl | rfl | rfl
    · exact ⟨_, hz, fun v m => nomatch m⟩
    · exact ⟨_, hI, fun v m => nomatch m⟩
    · exact ⟨_, hO, fun v m => nomatch m⟩
    · exact k1.itGet t1
    · exact k2.itGet t2
  keep := by
    rintro i g g' ⟨hz, hI, ⟨x, y, hO⟩, t1, t2⟩ k
    exact ⟨k z (by simp) _ hz, k TI (by simp) _ hI, ⟨x, y, k TO (by simp) _ hO⟩, k1.itAt t1 fun o m => k i1 (by simp) o m, k2.itAt t2 fun o m => k i2 (by simp) o m⟩
  item := by
    intro X hP hw hK hc i pins s σ H E I hf st hg
    subst hP hw hK
    obtain ⟨hz, hI, ⟨x0, y0, hO⟩, t1, t2⟩ := st
    obtain ⟨xs, ys, x, y, sx, sy, gx, gy⟩ := hg
    obtain ⟨us, r1, p1, _⟩ := v1.to I sx
    obtain ⟨ws, r2, p2, _⟩ := v2.to I sy
    obtain ⟨u, hu, ru⟩ := r1.get gx
    obtain ⟨u', hu', ru'⟩ := r2.get gy
    have zl : z < s.heap.objs.size := Heap.lt_size hz
    refine nextK_item k1 k2 D hz hI hO t1 t2 p1 p2 (x := u) (y := u') (by simpa using hu) (by simpa using hu') ?_
    intro g z1 O1 a1 a2 hT hsz hk
    refine ⟨_, rfl, wpAny_letOwnedTupleGo_zip (s := { s with heap := g }) z1 ?_⟩
    intro g2 z2 sb
    have hT2 : g2.get? s.heap.objs.size = some { cls := .type "tuple", data := .seq #[u, u'] } := (sb.2 _ (Nat.ne_of_gt zl)).trans hT
    have new : ObjOk X.prog X.w (upd H s.heap.objs.size (.tup [x, y])) g2 s.heap.objs.size (.tup [x, y]) := ⟨by show 2 ≤ sizeLine; decide, [u, u'], .cons ru (.cons ru' .nil), ⟨_, hT2, rfl, _, rfl⟩⟩
    have I1 : Inv X pins σ (upd H s.heap.objs.size (.tup [x, y])) { s with heap := g2 } := by
      refine I.turnedNew (t' := s.toks) (ch := [z, TI, TO, i1, i2]) (fun c o hb m => ?_) hf (Nat.le_refl _) new
      have n1 : c ≠ z := fun e => hb (by simp [e])
      have n2 : c ≠ TO := fun e => hb (by simp [e])
      have n3 : c ≠ i1 := fun e => hb (by simp [e])
      have n4 : c ≠ i2 := fun e => hb (by simp [e])
      exact (sb.2 c n1).trans (hk c o n1 n2 n3 n4 m)
    refine ⟨.ref s.heap.objs.size, _, I1, rfl, ⟨_, x, y, rfl, I.hok.fresh (Nat.le_refl _), rfl, fun l hl => by rw [v1.inj I hl sx]; exact gx, fun l hl => by rw [v2.inj I hl sy]; exact gy⟩, ⟨z2, ?_, ⟨u, u', ?_⟩, ?_, ?_⟩, fun c hcm => ?_⟩
    · exact (sb.2 _ D.TIz).trans (hk _ _ D.TIz D.TITO D.TIi1 D.TIi2 hI)
    · exact (sb.2 _ D.TOz).trans O1
    · exact k1.itAt a1 fun o m => (sb.2 _ D.i1z).trans m
    · exact k2.itAt a2 fun o m => (sb.2 _ D.i2z).trans m
    · have hlt : c < s.heap.objs.size := by
        rcases five hcm with rfl | rfl | rfl | rfl | rfl
        · exact zl
        · exact Heap.lt_size hI
        · exact Heap.lt_size hO
        · obtain ⟨_, m, _⟩ := k1.itGet t1; exact Heap.lt_size m
        · obtain ⟨_, m, _⟩ := k2.itGet t2; exact Heap.lt_size m
      rw [upd_ne (Nat.ne_of_lt hlt)]
      exact (hf c hcm).1
  done := by
    intro X hP hw hK hc i pins s σ H E I hf st hg
    subst hP hw hK
    obtain ⟨hz, hI, ⟨x0, y0, hO⟩, t1, t2⟩ := st
    obtain ⟨xs, ys, sx, sy, hend⟩ := hg
    obtain ⟨us, r1, p1, _⟩ := v1.to I sx
    obtain ⟨ws, r2, p2, _⟩ := v2.to I sy
    have l1 := r1.length
    have l2 := r2.length
    have he : us.toArray[i]? = none ∨ ws.toArray[i]? = none := hend.imp (fun m => by simp; omega) fun m => by simp; omega
    refine nextK_end k1 k2 (I.ok.hd hc) D hz hI hO t1 t2 p1 p2 he ?_
    intro g hk
    refine ⟨rfl, I.turnedL (t' := s.toks) (ch := [z, TI, TO, i1, i2]) (fun c o hb m => ?_) hf⟩
    exact hk c o (fun e => hb (by simp [e])) (fun e => hb (by simp [e])) (fun e => hb (by simp [e])) (fun e => hb (by simp [e])) m
  self := fun A i s Q E st h => wpAny_pyIter_zip st.1 h
end
def iZipK (K : Fg) (ta : TA) : TI := fun σ H R => ta σ H fun vs H1 => ∃ a b xs ys, vs = [.ref a, .ref b] ∧ ((SqT K H1 a xs ∧ SqL K H1 b ys ∧ R (ItzK SqT SqL K a b) H1) ∨ (SqL K H1 a xs ∧ SqT K H1 b ys ∧ R (ItzK SqL SqT K a b) H1) ∨ (SqL K H1 a xs ∧ SqL K H1 b ys ∧ R (ItzK SqL SqL K a b) H1) ∨ (SqT K H1 a xs ∧ SqT K H1 b ys ∧ R (ItzK SqT SqT K a b) H1))
theorem pi_zipK {X : Cx} {e e2 : Expr} {ta : TA} {p pos tpos : Pos} {elts : List Expr} {kk : Nat} (hg : Gl X "zip") (hm : X.mg "zip" = none) (ha : PA X [e, e2] ta)
    (hs : starEach [e, e2] X.env = (false, eval e X.env) :: starEach [e2] X.env := by rfl) (hpl : (backTo pos (starEach [e2] X.env)).any (·.1) = false := by rfl) : PI X (.Tuple elts kk tpos) (.Call (.Name "zip" p) [e, e2] [] pos) (iZipK X.K ta) := by
  constructor
  intro pins s σ H R I h
  refine Call_ (ld_blt I hg hm PyProof.Rows.boot_zip (PyProof.Rows.callWith_type1 (thn (ha.run pos pins s σ H _ I h) ?_) hs hpl))
  rintro us s1 ⟨vs, H1, I1, r1, a, b, xs, ys, rfl, q1⟩
  cases r1 with
  | cons r rr =>
  cases rr with
  | cons r' rr =>
  cases rr
  cases r
  cases r'
  have fresh : ∀ c, c ∈ [s1.heap.objs.size + 4, s1.heap.objs.size + 2, s1.heap.objs.size + 3, s1.heap.objs.size, s1.heap.objs.size + 1] → FpOk X pins H1 c := by
    intro c hc
    have hle : s1.heap.objs.size ≤ c := by rcases five hc with rfl | rfl | rfl | rfl | rfl <;> omega
    exact I1.fpOk hle (I1.hok.fresh hle)
  rcases q1 with ⟨sx, sy, q⟩ | ⟨sx, sy, q⟩ | ⟨sx, sy, q⟩ | ⟨sx, sy, q⟩
  · obtain ⟨its, rv, p1, n1⟩ := kvT.to I1 sx
    obtain ⟨its2, rv2, p2, n2⟩ := kvL.to I1 sy
    refine call_zipTL p1 p2 ?_
    rintro g ⟨hz, hI, hO, t1, t2, hk⟩
    refine wpAny_pyIter_zip hz ?_
    have I2 : Inv X pins σ H1 { s1 with heap := g } := I1.kept (t' := s1.toks) hk
    exact ⟨s1.heap.objs.size + 4, _, _, _, H1, rfl, I2, turn_zipK kdT kdL kvT kvL (PySem.W.ktu_apart s1.heap.objs.size a b n1 n2), ⟨hz, hI, ⟨_, _, hO⟩, t1, t2⟩, fresh, q⟩
  · obtain ⟨its, rv, p1, n1⟩ := kvL.to I1 sx
    obtain ⟨its2, rv2, p2, n2⟩ := kvT.to I1 sy
    refine call_zipLT p1 p2 ?_
    rintro g ⟨hz, hI, hO, t1, t2, hk⟩
    refine wpAny_pyIter_zip hz ?_
    have I2 : Inv X pins σ H1 { s1 with heap := g } := I1.kept (t' := s1.toks) hk
    exact ⟨s1.heap.objs.size + 4, _, _, _, H1, rfl, I2, turn_zipK kdL kdT kvL kvT (PySem.W.ktu_apart s1.heap.objs.size a b n1 n2), ⟨hz, hI, ⟨_, _, hO⟩, t1, t2⟩, fresh, q⟩
  · obtain ⟨its, rv, p1, n1⟩ := kvL.to I1 sx
    obtain ⟨its2, rv2, p2, n2⟩ := kvL.to I1 sy
    refine call_zip_2 p1 p2 ?_
    intro g hz hI hO t1 t2 _ hk
    refine wpAny_pyIter_zip hz ?_
    have I2 : Inv X pins σ H1 { s1 with heap := g } := I1.kept (t' := s1.toks) hk
    exact ⟨s1.heap.objs.size + 4, _, _, _, H1, rfl, I2, turn_zipK kdL kdL kvL kvL (PySem.W.ktu_apart s1.heap.objs.size a b n1 n2), ⟨hz, hI, ⟨_, _, hO⟩, t1, t2⟩, fresh, q⟩
  · obtain ⟨its, rv, p1, n1⟩ := kvT.to I1 sx
    obtain ⟨its2, rv2, p2, n2⟩ := kvT.to I1 sy
    refine RZ.call_zipT p1 p2 ?_
    intro g hz hI hO t1 t2 _ hk
    refine wpAny_pyIter_zip hz ?_
    have I2 : Inv X pins σ H1 { s1 with heap := g } := I1.kept (t' := s1.toks) hk
    exact ⟨s1.heap.objs.size + 4, _, _, _, H1, rfl, I2, turn_zipK kdT kdT kvT kvT (PySem.W.ktu_apart s1.heap.objs.size a b n1 n2), ⟨hz, hI, ⟨_, _, hO⟩, t1, t2⟩, fresh, q⟩
/-- rows as data: a list, a tuple -/
def RowAt (Sv : Fg → Hp → Addr → List V → Prop) (K : Fg) (F1 : Hp) (p : Addr) (vs : List V) : Prop := ∀ H, Same F1 H → Sv K H p vs
theorem wk_zipK {K : Fg} {F1 : Hp} {S1 S2 : Fg → Hp → Addr → List V → Prop} {Sq1 Sq2 : Heap → Addr → Array Value → Prop} {p q : Addr} {vs us : List V} {ds es : List D} (h : RowAt S1 K F1 p vs) (h' : RowAt S2 K F1 q us) (r : Reps K F1 ds vs) (r' : Reps K F1 es us) : Wk K F1 (zipL ds es) (ItzK S1 S2 K p q) where
  go := fun F H i s1 s2 hi => by
    unfold zipL at hi
    rw [List.length_zipWith] at hi
    have n1 : i < vs.length := by rw [r.length]; omega
    have n2 : i < us.length := by rw [r'.length]; omega
    exact ⟨vs, us, vs[i], us[i], h H (s1.trans s2), h' H (s1.trans s2), by simp [n1], by simp [n2]⟩
  yld := fun F H H' i d x s1 s2 e y => by
    obtain ⟨T, x1, x2, e1, hT, e2, y1, y2⟩ := y
    subst e2
    have q1 := y1 vs (h H (s1.trans s2))
    have q2 := y2 us (h' H (s1.trans s2))
    unfold zipL at e
    rw [List.getElem?_zipWith] at e
    cases z1 : ds[i]? with
    | none => rw [z1] at e; cases e
    | some d1 =>
      cases z2 : es[i]? with
      | none => rw [z1, z2] at e; cases e
      | some d2 =>
        rw [z1, z2] at e
        cases e
        obtain ⟨v, e5, rv⟩ := r.get z1
        obtain ⟨u, e6, ru⟩ := r'.get z2
        rw [q1] at e5
        rw [q2] at e6
        cases e5
        cases e6
        have fT := s2.free hT
        exact ⟨_, .tup hT, T, _, e1, .inl upd_same, _, _, rfl, Rep.mono (s1.trans (Same.upd fT)) _ _ rv, _, _, rfl, Rep.mono (s1.trans (Same.upd fT)) _ _ ru, rfl⟩
  stop := fun F H i s1 s2 hi => by
    unfold zipL at hi
    rw [List.length_zipWith] at hi
    refine ⟨vs, us, h H (s1.trans s2), h' H (s1.trans s2), ?_⟩
    rw [r.length, r'.length]
    omega
def riZipA (r : RF) : RI := fun ρ Q => r ρ fun ds ρ1 => match ds with
  | [.lst xs, .lst ys] => Q (zipL xs ys) ρ1
  | [.tup xs, .tup ys] => Q (zipL xs ys) ρ1
  | [.tup xs, .lst ys] => Q (zipL xs ys) ρ1
  | [.lst xs, .tup ys] => Q (zipL xs ys) ρ1
  | _ => False
theorem vi_zipA {X : Cx} {a b : Expr} {p pos tpos : Pos} {elts : List Expr} {kk : Nat} {r : RF} (hg : Gl X "zip") (hm : X.mg "zip" = none) (ha : VF X [a, b] r)
    (hs : starEach [a, b] X.env = (false, eval a X.env) :: starEach [b] X.env := by rfl) (hpl : (backTo pos (starEach [b] X.env)).any (·.1) = false := by rfl) : VI X (.Tuple elts kk tpos) (.Call (.Name "zip" p) [a, b] [] pos) (riZipA r) := by
  refine PI.weak (pi_zipK hg hm ha hs hpl) ?_
  rintro σ H R ⟨S, F, ρ, tmp, Q, h, hr, w⟩
  refine tVF.mk h hr fun vs H1 ⟨F1, ρ1, ds, s1, h1, v1, q1⟩ => ?_
  have sub : Same F1 H1 := by obtain ⟨_, h1⟩ := h1; exact h1.sub
  cases ds with
  | nil => exact q1.elim
  | cons d r =>
    cases r with
    | nil => cases d <;> exact q1.elim
    | cons d2 r =>
      cases r with
      | cons _ _ => cases d <;> first | exact q1.elim | (cases d2 <;> exact q1.elim)
      | nil =>
        obtain ⟨v, u, e, rv, u2, t, e2, rv2, ru⟩ := v1
        cases ru
        subst e2
        cases d with
        | lst xs =>
          obtain ⟨p1, vs1, e3, hp1, rr1⟩ := rv
          subst e3
          have a1 : RowAt SqL X.K F1 p1 vs1 := fun G sG => .inl (.inl (sG _ _ hp1))
          cases d2 with
          | lst ys =>
            obtain ⟨p2, vs2, e4, hp2, rr2⟩ := rv2
            subst e4
            have a2 : RowAt SqL X.K F1 p2 vs2 := fun G sG => .inl (.inl (sG _ _ hp2))
            exact ⟨p1, p2, vs1, vs2, e, .inr (.inr (.inl ⟨a1 _ sub, a2 _ sub, w _ _ ⟨F1, ρ1, _, s1, h1, wk_zipK (Sq1 := Heap.IsList) (Sq2 := Heap.IsList) a1 a2 rr1 rr2, q1⟩⟩))⟩
          | tup ys =>
            obtain ⟨p2, vs2, e4, hp2, rr2⟩ := rv2
            subst e4
            have a2 : RowAt SqT X.K F1 p2 vs2 := fun G sG => hp2.sq sG
            exact ⟨p1, p2, vs1, vs2, e, .inr (.inl ⟨a1 _ sub, a2 _ sub, w _ _ ⟨F1, ρ1, _, s1, h1, wk_zipK (Sq1 := Heap.IsList) (Sq2 := Heap.IsTuple) a1 a2 rr1 rr2, q1⟩⟩)⟩
          | _ => exact q1.elim
        | tup xs =>
          obtain ⟨p1, vs1, e3, hp1, rr1⟩ := rv
          subst e3
          have a1 : RowAt SqT X.K F1 p1 vs1 := fun G sG => hp1.sq sG
          cases d2 with
          | lst ys =>
            obtain ⟨p2, vs2, e4, hp2, rr2⟩ := rv2
            subst e4
            have a2 : RowAt SqL X.K F1 p2 vs2 := fun G sG => .inl (.inl (sG _ _ hp2))
            exact ⟨p1, p2, vs1, vs2, e, .inl ⟨a1 _ sub, a2 _ sub, w _ _ ⟨F1, ρ1, _, s1, h1, wk_zipK (Sq1 := Heap.IsTuple) (Sq2 := Heap.IsList) a1 a2 rr1 rr2, q1⟩⟩⟩
          | tup ys =>
            obtain ⟨p2, vs2, e4, hp2, rr2⟩ := rv2
            subst e4
            have a2 : RowAt SqT X.K F1 p2 vs2 := fun G sG => hp2.sq sG
            exact ⟨p1, p2, vs1, vs2, e, .inr (.inr (.inr ⟨a1 _ sub, a2 _ sub, w _ _ ⟨F1, ρ1, _, s1, h1, wk_zipK (Sq1 := Heap.IsTuple) (Sq2 := Heap.IsTuple) a1 a2 rr1 rr2, q1⟩⟩))⟩
          | _ => exact q1.elim
        | _ => exact q1.elim
end VL

namespace VL
open PySem PySem.Spec PyProof.Rows L2

/-! ### a test that is one or another -/
section
variable {X : Cx} {c a b : Expr} {pos : Pos}
end
end VL

namespace VL
open PySem PySem.Spec PyProof.Rows L2

/-! ### repr of any plain data -/
def gShowA : GN := g1 fun d R => (∃ B m, B ≤ 1900 ∧ m ≤ 60 ∧ d.dat B m) ∧ d.sz ≤ 16000000 ∧ R (.str d.px.shown) 0
def tShowA (X : Cx) : List V → Hp → VK → Prop := fun xs H Q => ∃ (F : Hp) (x : V) (d : D) (B m : Nat), xs = [x] ∧ Same F H ∧ B ≤ 1900 ∧ m ≤ 60 ∧ d.dat B m ∧ Shal X.K F H d x ∧ d.sz ≤ 16000000 ∧ Q (.str d.px.shown) H
theorem call_reprA {X : Cx} {k : Nat} (hr : RoomG k X.A) (hB : HasSys X.prog X.base) : CallR X (.builtin "repr") (tShowA X) := by
  intro pins s σ H xs us Q I r h
  obtain ⟨F, x, d, B, m, rfl, sF, hB1, hm, hd, hs, hz, q⟩ := h
  have h3 := shown_sz hd
  have hu := hr.rm.un
  by_cases hrow : isRow d = true
  · exact call_repr hr hB pins s σ H _ us Q I r ⟨F, x, d, B, m, rfl, sF, hB1, hm, hd, hrow, hs, hz, q⟩
  obtain ⟨u, rfl, rx⟩ := vals1 r
  obtain ⟨h1, h2⟩ := showable_dat hB1 hd
  have hz3 : d.px.shown.length ≤ sizeLine := Nat.le_trans h3 (Nat.le_trans hz (by decide))
  cases d with
  | non => cases hs; cases rx; exact P.repr_of_none ⟨.str (D.non).px.shown, H, I.tok _, ⟨_, rfl⟩, q⟩
  | bl b => cases hs; cases rx; cases b <;> first | exact P.repr_of_bool ⟨.str (D.bl true).px.shown, H, I.tok _, ⟨_, rfl⟩, q⟩ | exact P.repr_of_bool ⟨.str (D.bl false).px.shown, H, I.tok _, ⟨_, rfl⟩, q⟩
  | int i => cases hs; obtain ⟨t, rfl⟩ := rx; exact P.repr_of_int (of_decide_eq_true h1) ⟨.str (D.int i).px.shown, H, I.tok _, ⟨_, rfl⟩, q⟩
  | str x => cases hs; obtain ⟨t, rfl⟩ := rx; exact P.repr_of_str ⟨.str (D.str x).px.shown, H, I.tok _, ⟨_, rfl⟩, q⟩ hz3
  | dct ks vs =>
    have e : ks = [] := by
      have h' : (ks.isEmpty && vs.isEmpty) = true := by cases m <;> exact hd
      rw [Bool.and_eq_true] at h'
      exact List.isEmpty_iff.mp h'.1
    subst e
    obtain ⟨p, us, rfl, hx, _⟩ := hs
    cases rx
    obtain ⟨as, rd, ns⟩ := dct_reads I hB (vs := us) hx
    exact repr_of_reads' rd h1 (fun _ => ns) hr.gd (by have h4 : (PyData.dict []).depth ≤ m + 1 := h2; omega) (fun _ _ e => e) (fun h' u tk hk => ⟨.str (D.dct [] vs).px.shown, H, I.kept hk, ⟨u, rfl⟩, q⟩) hz3
  | tup _ => exact absurd rfl hrow
  | lst _ => exact absurd rfl hrow
  | opq v => cases m <;> exact absurd hd Bool.false_ne_true
  | scr v => cases m <;> exact absurd hd Bool.false_ne_true
  | pdc _ _ => cases m <;> exact absurd hd Bool.false_ne_true
  | exc _ _ _ => cases m <;> exact absurd hd Bool.false_ne_true
theorem lk_showA {X : Cx} : LkN X.K (tShowA X) gShowA := fun F H ds vs R Q' s h g w => by
  obtain ⟨d, e0, ⟨B, m, hB, hm, hd⟩, hz, q⟩ := g.of
  subst e0
  obtain ⟨v, e, h2⟩ := h.one
  exact ⟨F, v, d, B, m, e, s, hB, hm, hd, h2, hz, w _ _ _ _ .str q⟩
theorem gShowA.to {d : D} {R : D → Nat → Prop} {B m : Nat} (hd : d.dat B m) (hB : B ≤ 1900) (hm : m ≤ 60) (hz : d.sz ≤ 16000000) (h : R (.str d.px.shown) 0) : gShowA [d] R := ⟨⟨B, m, hB, hm, hd⟩, hz, h⟩
theorem dab_two {L B m : Nat} {x y : D} (hL : 2 ≤ L) (h1 : x.dab L B m) (h2 : y.dab L B m) : (D.tup [x, y]).dab L B (m + 1) := dab_tup.mpr ⟨hL, fun d hd => by
  simp only [List.mem_cons, List.not_mem_nil, or_false] at hd
  rcases hd with rfl | rfl
  · exact h1
  · exact h2⟩
theorem dab_three {L B m : Nat} {x y z : D} (hL : 3 ≤ L) (h1 : x.dab L B m) (h2 : y.dab L B m) (h3 : z.dab L B m) : (D.tup [x, y, z]).dab L B (m + 1) := dab_tup.mpr ⟨hL, fun d hd => by
  simp only [List.mem_cons, List.not_mem_nil, or_false] at hd
  rcases hd with rfl | rfl | rfl
  · exact h1
  · exact h2
  · exact h3⟩
theorem dab_num {L B m : Nat} {i : Int} (hB : 10 ≤ B) (h : i.natAbs < 1024) : (D.int i).dab L B m := dab_int.mpr (Nat.le_trans (bl_small h) hB)
theorem cut_len (ds : List D) (lo hi : Option Int) : (cutL ds lo hi).length ≤ ds.length := by
  unfold cutL
  rw [List.length_take, List.length_drop]
  omega
theorem lit3 {r : RS} {E : EN} {ρ : Ev} {a0 a1 a2 : Sl} (h : ρ = [a0, a1, a2]) (k : r [a0, a1, a2] E) : r ρ E := by rw [h]; exact k
theorem lit7 {r : RS} {E : EN} {ρ : Ev} {a0 a1 a2 a3 a4 a5 a6 : Sl} (h : ρ = [a0, a1, a2, a3, a4, a5, a6]) (k : r [a0, a1, a2, a3, a4, a5, a6] E) : r ρ E := by rw [h]; exact k
theorem lit8 {r : RS} {E : EN} {ρ : Ev} {a0 a1 a2 a3 a4 a5 a6 a7 : Sl} (h : ρ = [a0, a1, a2, a3, a4, a5, a6, a7]) (k : r [a0, a1, a2, a3, a4, a5, a6, a7] E) : r ρ E := by rw [h]; exact k
theorem lit9 {r : RS} {E : EN} {ρ : Ev} {a0 a1 a2 a3 a4 a5 a6 a7 a8 : Sl} (h : ρ = [a0, a1, a2, a3, a4, a5, a6, a7, a8]) (k : r [a0, a1, a2, a3, a4, a5, a6, a7, a8] E) : r ρ E := by rw [h]; exact k
theorem lit10 {r : RS} {E : EN} {ρ : Ev} {a0 a1 a2 a3 a4 a5 a6 a7 a8 a9 : Sl} (h : ρ = [a0, a1, a2, a3, a4, a5, a6, a7, a8, a9]) (k : r [a0, a1, a2, a3, a4, a5, a6, a7, a8, a9] E) : r ρ E := by rw [h]; exact k
theorem lit11 {r : RS} {E : EN} {ρ : Ev} {a0 a1 a2 a3 a4 a5 a6 a7 a8 a9 a10 : Sl} (h : ρ = [a0, a1, a2, a3, a4, a5, a6, a7, a8, a9, a10]) (k : r [a0, a1, a2, a3, a4, a5, a6, a7, a8, a9, a10] E) : r ρ E := by rw [h]; exact k
theorem lit12 {r : RS} {E : EN} {ρ : Ev} {a0 a1 a2 a3 a4 a5 a6 a7 a8 a9 a10 a11 : Sl} (h : ρ = [a0, a1, a2, a3, a4, a5, a6, a7, a8, a9, a10, a11]) (k : r [a0, a1, a2, a3, a4, a5, a6, a7, a8, a9, a10, a11] E) : r ρ E := by rw [h]; exact k
theorem lit15 {r : RS} {E : EN} {ρ : Ev} {a0 a1 a2 a3 a4 a5 a6 a7 a8 a9 a10 a11 a12 a13 a14 : Sl} (h : ρ = [a0, a1, a2, a3, a4, a5, a6, a7, a8, a9, a10, a11, a12, a13, a14]) (k : r [a0, a1, a2, a3, a4, a5, a6, a7, a8, a9, a10, a11, a12, a13, a14] E) : r ρ E := by rw [h]; exact k
end VL


set_option maxHeartbeats 2000000
namespace VL
open PySem PySem.Spec PyProof.Rows L2
local macro_rules | `(tactic| walk_at "v") => `(tactic| repeat (first | refine ⟨rfl, ?_⟩ | refine ⟨_, rfl, ?_⟩))
local macro_rules | `(tactic| walk_at "y") => `(tactic| refine ⟨fun _ => ?_, fun h => Bool.noConfusion (show true = false from h)⟩)
local macro_rules | `(tactic| walk_at "n") => `(tactic| refine ⟨fun h => Bool.noConfusion (show false = true from h), fun _ => ?_⟩)
local macro_rules | `(tactic| walk_at "ty") => `(tactic| refine ⟨_, rfl, by decide, ?_⟩)
local macro_rules | `(tactic| walk_at "tys") => `(tactic| refine ⟨_, rfl, _, rfl, by decide, ?_⟩)
local macro_rules | `(tactic| walk_at "z") => `(tactic| repeat (first | refine ⟨rfl, ?_⟩ | refine ⟨_, rfl, ?_⟩ | refine ⟨fun _ => ?_, fun h => Bool.noConfusion (show true = false from h)⟩ | refine ⟨fun h => Bool.noConfusion (show false = true from h), fun _ => ?_⟩ | refine ⟨tyIn rfl, ?_⟩ | refine ⟨tysIn rfl, ?_⟩ | refine ⟨smallL rfl, ?_⟩ | refine ⟨smallE rfl, ?_⟩))
local macro_rules | `(tactic| walk_at "zz") => `(tactic| repeat ((fail_if_success show forL _ _ _ _ _); first | refine ⟨rfl, ?_⟩ | refine ⟨_, rfl, ?_⟩ | refine ⟨fun _ => ?_, fun h => Bool.noConfusion (show true = false from h)⟩ | refine ⟨fun h => Bool.noConfusion (show false = true from h), fun _ => ?_⟩ | refine ⟨tyIn rfl, ?_⟩ | refine ⟨tysIn rfl, ?_⟩ | refine ⟨smallL rfl, ?_⟩ | refine ⟨smallE rfl, ?_⟩))
/-! ### places within a thing -/
def kids : D → List D
  | .tup xs => xs
  | .lst xs => xs
  | _ => []
def atP (d : D) : List Nat → Option D
  | [] => some d
  | i :: p => match (kids d)[i]? with
    | some x => atP x p
    | none => none
def dPt (p : List Nat) : D := .tup (p.map fun (i : Nat) => .int i)
@[irreducible] def sp_l_places : ASp := fun ds R => ∃ (d : D) (L B m : Nat), ds = [d] ∧ d.dab L B m ∧ L ≤ 900 ∧ d.sz ≤ 4000000 ∧ ∀ ps : List (List Nat), ps.length ≤ 16000010 → (∀ p ∈ ps, p ≠ [] ∧ p.length ≤ 8 ∧ ∃ x, atP d p = some x) → R (.lst (ps.map dPt)) 1 []
theorem sp_l_places.mk {d : D} {L B m : Nat} {R : RR} (h1 : d.dab L B m) (h2 : L ≤ 900) (h3 : d.sz ≤ 4000000) (h : ∀ ps : List (List Nat), ps.length ≤ 16000010 → (∀ p ∈ ps, p ≠ [] ∧ p.length ≤ 8 ∧ ∃ x, atP d p = some x) → R (.lst (ps.map dPt)) 1 []) : sp_l_places [d] R := by
  unfold sp_l_places; exact ⟨d, L, B, m, rfl, h1, h2, h3, h⟩
/-- the thing with made ahead of, behind which the rest -/
def wth (d : D) (made : List D) : List Nat → D
  | [] => d
  | i :: p =>
    let r := match p with
      | [] => (kids d).take i ++ made ++ (kids d).drop (i + 1)
      | _ :: _ => match (kids d)[i]? with
        | some x => (kids d).set i (wth x made p)
        | none => []
    match d with
    | .lst _ => .lst r
    | _ => .tup r
@[irreducible] def sp_l_with (m : Nat) : ASp := fun ds R => ∃ (d x : D) (p : List Nat) (made : List D) (L B j : Nat), ds = [d, dPt p, .lst made] ∧ p ≠ [] ∧ p.length ≤ m + 1 ∧ p.length ≤ 100 ∧ d.dab L B j ∧ L ≤ 900 ∧ atP d p = some x ∧ made.length ≤ 2 ∧ R (wth d made p) 0 []
theorem sp_l_with.mk {m : Nat} {d x : D} {p : List Nat} {made : List D} {L B j : Nat} {R : RR} (h1 : p ≠ []) (h2 : p.length ≤ m + 1) (h3 : p.length ≤ 100) (h4 : d.dab L B j) (h5 : L ≤ 900) (h6 : atP d p = some x) (h7 : made.length ≤ 2) (h : R (wth d made p) 0 []) : sp_l_with m [d, dPt p, .lst made] R := by
  unfold sp_l_with; exact ⟨d, x, p, made, L, B, j, rfl, h1, h2, h3, h4, h5, h6, h7, h⟩
@[irreducible] def sp_l_bent_24dffe : ASp := fun ds R => ∃ (t : Tp) (d : D) (n L B m : Nat), ds = [dT t, d] ∧ d.dab L B m ∧ 1 ≤ L ∧ L ≤ 400 ∧ 1 ≤ B ∧ B ≤ 1900 ∧ t.ok (n + 1) ∧ ∀ r t', r.dab (L + 1) (B + 2) (m + 1) → r.sz ≤ 2 * d.sz + 22000 → t'.ok n → R r 0 [dT t']
theorem sp_l_bent_24dffe.mk {t : Tp} {d : D} {R : RR} (n : Nat) {L B m : Nat} (hd : d.dab L B m) (h1 : 1 ≤ L) (h2 : L ≤ 400) (h3 : 1 ≤ B) (h4 : B ≤ 1900) (ht : t.ok (n + 1)) (h : ∀ r t', r.dab (L + 1) (B + 2) (m + 1) → r.sz ≤ 2 * d.sz + 22000 → t'.ok n → R r 0 [dT t']) : sp_l_bent_24dffe [dT t, d] R := by
  unfold sp_l_bent_24dffe; exact ⟨t, d, n, L, B, m, rfl, hd, h1, h2, h3, h4, ht, h⟩
@[irreducible] def sp_l_spoilt : ASp := fun ds R => ∃ (t : Tp) (d : D) (n L B m : Nat), ds = [dT t, d] ∧ d.dab L B m ∧ 1 ≤ L ∧ L ≤ 400 ∧ 1 ≤ B ∧ B ≤ 1900 ∧ d.sz ≤ 4000000 ∧ t.ok (n + 3) ∧ ∀ r t', r.dab (L + 1) (B + 2) (m + 1) → r.sz ≤ 4 * d.sz + 22300 → t'.ok n → R r 0 [dT t']
theorem sp_l_spoilt.mk {t : Tp} {d : D} {R : RR} (n : Nat) {L B m : Nat} (hd : d.dab L B m) (h1 : 1 ≤ L) (h2 : L ≤ 400) (h3 : 1 ≤ B) (h4 : B ≤ 1900) (h5 : d.sz ≤ 4000000) (ht : t.ok (n + 3)) (h : ∀ r t', r.dab (L + 1) (B + 2) (m + 1) → r.sz ≤ 4 * d.sz + 22300 → t'.ok n → R r 0 [dT t']) : sp_l_spoilt [dT t, d] R := by
  unfold sp_l_spoilt; exact ⟨t, d, n, L, B, m, rfl, hd, h1, h2, h3, h4, h5, ht, h⟩
def Lay (d : D) (k : Nat) (qs : List (List Nat × D)) : Prop := ∀ q ∈ qs, q.1.length = k ∧ atP d q.1 = some q.2
theorem Lay.app {d : D} {k : Nat} {a b : List (List Nat × D)} (h1 : Lay d k a) (h2 : Lay d k b) : Lay d k (a ++ b) := fun q hq => (List.mem_append.mp hq).elim (h1 q) (h2 q)
theorem cut_take {xs : List D} {i : Nat} (h : i ≤ xs.length) : cutL xs none (some (i : Int)) = xs.take i := by
  unfold cutL
  rw [HT.sIx_none, HT.sIx_nat, List.drop_zero, Nat.min_eq_left h, Nat.sub_zero]
theorem cut_drop {xs : List D} {i : Nat} (h : i ≤ xs.length) : cutL xs (some (i : Int)) none = xs.drop i := by
  unfold cutL
  rw [HT.sIx_none, HT.sIx_nat, Nat.min_eq_left h, ← List.length_drop, List.take_length]
end VL


set_option maxHeartbeats 2000000
namespace VL
open PySem PySem.Spec PyProof.Rows L2
local macro_rules | `(tactic| walk_at "v") => `(tactic| repeat (first | refine ⟨rfl, ?_⟩ | refine ⟨_, rfl, ?_⟩))
local macro_rules | `(tactic| walk_at "y") => `(tactic| refine ⟨fun _ => ?_, fun h => Bool.noConfusion (show true = false from h)⟩)
local macro_rules | `(tactic| walk_at "n") => `(tactic| refine ⟨fun h => Bool.noConfusion (show false = true from h), fun _ => ?_⟩)
local macro_rules | `(tactic| walk_at "ty") => `(tactic| refine ⟨_, rfl, by decide, ?_⟩)
local macro_rules | `(tactic| walk_at "tys") => `(tactic| refine ⟨_, rfl, _, rfl, by decide, ?_⟩)
local macro_rules | `(tactic| walk_at "z") => `(tactic| repeat (first | refine ⟨rfl, ?_⟩ | refine ⟨_, rfl, ?_⟩ | refine ⟨fun _ => ?_, fun h => Bool.noConfusion (show true = false from h)⟩ | refine ⟨fun h => Bool.noConfusion (show false = true from h), fun _ => ?_⟩ | refine ⟨tyIn rfl, ?_⟩ | refine ⟨tysIn rfl, ?_⟩ | refine ⟨smallL rfl, ?_⟩ | refine ⟨smallE rfl, ?_⟩))
local macro_rules | `(tactic| walk_at "zz") => `(tactic| repeat ((fail_if_success show forL _ _ _ _ _); first | refine ⟨rfl, ?_⟩ | refine ⟨_, rfl, ?_⟩ | refine ⟨fun _ => ?_, fun h => Bool.noConfusion (show true = false from h)⟩ | refine ⟨fun h => Bool.noConfusion (show false = true from h), fun _ => ?_⟩ | refine ⟨tyIn rfl, ?_⟩ | refine ⟨tysIn rfl, ?_⟩ | refine ⟨smallL rfl, ?_⟩ | refine ⟨smallE rfl, ?_⟩))
/-! ### a land drawn is a land -/
theorem dab_dq {L B m : Nat} {q : Rat} (hL : 2 ≤ L) (h : wt q ≤ B) : (dq q).dab L B (m + 1) := dab_two hL (dab_int.mpr (Nat.le_trans (wt_num q) h)) (dab_int.mpr (Nat.le_trans (wt_den' q) h))
theorem dab_dw {L B m : Nat} {qs : List Rat} (hL : 2 ≤ L) (h : allw B qs) (hl : qs.length ≤ L) : (dw qs).dab L B (m + 2) := dab_tup.mpr ⟨by rw [List.length_map]; exact hl, fun d hd => by
  obtain ⟨q, hq, rfl⟩ := List.mem_map.mp hd
  exact dab_dq hL (h q hq)⟩
theorem dab_nat {L B m : Nat} {k : Nat} (hB : 10 ≤ B) (h : k < 1024) : (D.int k).dab L B m := dab_num hB (by omega)
theorem fols_dab {n : Nat} {fs : List (Nat × Rat)} (h : FolOk n fs) (hn : n ≤ 8) : (D.lst (fs.map dF)).dab 9 90 3 := dab_lst.mpr ⟨by rw [List.length_map]; have := h.len; omega, fun d hd => by
  obtain ⟨x, hx, rfl⟩ := List.mem_map.mp hd
  have := h.lt x hx
  exact dab_two (by decide) (dab_nat (by decide) (by omega)) (dab_dq (by decide) (Nat.le_trans (h.wt x hx) (by decide)))⟩
theorem deed_dab {k n : Nat} {d : Deed} (h : DeedOk k n d) (hk : k ≤ 4) (hn : n ≤ 8) : (dDeed d).dab 9 90 4 := dab_two (by decide) (dab_dw (m := 1) (by decide) h.wts (by rw [h.len]; omega)) (fols_dab h.fol hn)
theorem st_dab {k n : Nat} {s : St} (h : StOk k n s) (hk : k ≤ 4) (hn : n ≤ 8) : (dSt s).dab 9 90 6 := by
  have h1 := h.c
  have h2 := h.few
  refine dab_three (by decide) (dab_nat (by decide) (by omega)) (dab_dw (m := 3) (by decide) (allw_le h.wts (by decide)) (by rw [h.len]; omega)) (dab_lst.mpr ⟨by rw [List.length_map]; omega, fun d hd => ?_⟩)
  obtain ⟨x, hx, rfl⟩ := List.mem_map.mp hd
  exact deed_dab (h.ds x hx) hk hn
theorem land_dab {l : Land} (h : LandOk l) : (dLand l).dab 9 90 8 := by
  have h1 := h.k4
  have h2 := h.n8
  refine dab_two (by decide) (dab_nat (by decide) (by omega)) (dab_lst.mpr ⟨by rw [List.length_map]; omega, fun d hd => ?_⟩)
  obtain ⟨x, hx, rfl⟩ := List.mem_map.mp hd
  exact st_dab (h.sts x hx) h1 h2
theorem szs_le {c : Nat} : ∀ {xs : List D}, (∀ x ∈ xs, x.sz ≤ c) → D.szs xs ≤ xs.length * (c + 2)
  | [], _ => Nat.zero_le _
  | x :: xs, h => by
    have h1 := h x (by simp)
    have h2 := szs_le (xs := xs) fun y hy => h y (by simp [hy])
    show x.sz + 2 + D.szs xs ≤ (xs.length + 1) * (c + 2)
    rw [Nat.add_mul]; omega
theorem int_sz {i : Int} {B : Nat} (h : bl i.natAbs ≤ B) : (D.int i).sz ≤ B + 3 := by show bl i.natAbs + 3 ≤ B + 3; omega
theorem dq_sz {q : Rat} {B : Nat} (h : wt q ≤ B) : (dq q).sz ≤ 2 * B + 13 := by
  have h1 := wt_num q
  have h2 := wt_den' q
  show bl q.num.natAbs + 3 + 2 + (bl (q.den : Int).natAbs + 3 + 2 + 0) + 3 ≤ _
  omega
theorem dw_sz {qs : List Rat} {B k : Nat} (h : allw B qs) (hl : qs.length ≤ k) : (dw qs).sz ≤ k * (2 * B + 15) + 3 := by
  have h1 := szs_le (c := 2 * B + 13) (xs := qs.map dq) fun x hx => by
    obtain ⟨q, hq, rfl⟩ := List.mem_map.mp hx
    exact dq_sz (h q hq)
  rw [List.length_map] at h1
  have h2 := Nat.mul_le_mul_right (2 * B + 13 + 2) hl
  have e : 2 * B + 13 + 2 = 2 * B + 15 := rfl
  rw [e] at h1 h2
  show D.szs (qs.map dq) + 3 ≤ _
  omega
theorem rows_sz {xs : List D} {k c : Nat} (h : ∀ x ∈ xs, x.sz ≤ c) (hl : xs.length ≤ k) : D.szs xs ≤ k * (c + 2) := Nat.le_trans (szs_le h) (Nat.mul_le_mul_right _ hl)
theorem fol_sz {n : Nat} {fs : List (Nat × Rat)} (h : FolOk n fs) (hn : n ≤ 8) : (D.lst (fs.map dF)).sz ≤ 200 := by
  have h1 := rows_sz (xs := fs.map dF) (k := 4) (c := 45) (fun x hx => by
    obtain ⟨y, hy, rfl⟩ := List.mem_map.mp hx
    have h2 := dq_sz (h.wt y hy)
    have h3 := h.lt y hy
    have h4 : (D.int (y.1 : Int)).sz ≤ 4 + 3 := int_sz (bl_le (show (y.1 : Int).natAbs < 2 ^ 4 by omega))
    show (D.int (y.1 : Int)).sz + 2 + ((dq y.2).sz + 2 + 0) + 3 ≤ 45
    omega) (by rw [List.length_map]; exact h.len)
  show D.szs (fs.map dF) + 3 ≤ 200
  omega
theorem deed_sz {k n : Nat} {d : Deed} (h : DeedOk k n d) (hk : k ≤ 4) (hn : n ≤ 8) : (dDeed d).sz ≤ 1000 := by
  have h1 := dw_sz (k := 4) h.wts (by rw [h.len]; exact hk)
  have h2 := fol_sz h.fol hn
  show (dw d.w).sz + 2 + ((D.lst (d.fs.map dF)).sz + 2 + 0) + 3 ≤ 1000
  omega
theorem st_sz {k n : Nat} {s : St} (h : StOk k n s) (hk : k ≤ 4) (hn : n ≤ 8) : (dSt s).sz ≤ 9400 := by
  have h1 := dw_sz (k := 4) h.wts (by rw [h.len]; exact hk)
  have h2 := rows_sz (xs := s.ds.map dDeed) (k := 9) (c := 1000) (fun x hx => by
    obtain ⟨y, hy, rfl⟩ := List.mem_map.mp hx
    exact deed_sz (h.ds y hy) hk hn) (by rw [List.length_map]; exact h.few)
  have h3 := h.c
  have h4 : (D.int (s.c : Int)).sz ≤ 4 + 3 := int_sz (bl_le (show (s.c : Int).natAbs < 2 ^ 4 by omega))
  show (D.int (s.c : Int)).sz + 2 + ((dw s.e).sz + 2 + (D.szs (s.ds.map dDeed) + 3 + 2 + 0)) + 3 ≤ 9400
  omega
theorem land_sz {l : Land} (h : LandOk l) : (dLand l).sz ≤ 76000 := by
  have h2 := rows_sz (xs := l.sts.map dSt) (k := 8) (c := 9400) (fun x hx => by
    obtain ⟨y, hy, rfl⟩ := List.mem_map.mp hx
    exact st_sz (h.sts y hy) h.k4 h.n8) (by rw [List.length_map]; exact h.n8)
  have h3 := h.k4
  have h4 : (D.int (l.k : Int)).sz ≤ 4 + 3 := int_sz (bl_le (show (l.k : Int).natAbs < 2 ^ 4 by omega))
  show (D.int (l.k : Int)).sz + 2 + (D.szs (l.sts.map dSt) + 3 + 2 + 0) + 3 ≤ 76000
  omega
end VL

namespace VL
open PySem PySem.Spec PyProof.Rows L2

/-! ### lent: all that is owned is read only while an expression runs that tells a number, a truth, a text or None -/
def lendS : Sl → Sl
  | .no => .no
  | .fz d => .fz d
  | .ow _ d => .fz d
  | .io _ d => .fz d
def lend (ρ : Ev) : Ev := ρ.map lendS
def scal : D → Bool
  | .non => true
  | .bl _ => true
  | .int _ => true
  | .str _ => true
  | _ => false
section
variable {K : Fg} {S : Frm} {F H : Hp} {σ : L2.St} {ρ : Ev} {fps : Nat → List Addr} {tmp : List (Addr × HO)}
open Classical in
theorem SRf.lend (h : SRf K S F H σ ρ fps tmp) : ∃ F1, SRf K ⟨H, F1, []⟩ F1 H σ (lend ρ) (fun _ => []) [] := by
  have at1 : ∀ i a, a ∈ fps i → (if ∃ i, a ∈ fps i then H a else F a) = H a := fun i a ha => if_pos ⟨i, ha⟩
  have sF : Same F (fun a => if ∃ i, a ∈ fps i then H a else F a) := fun a o e => by
    show (if ∃ i, a ∈ fps i then H a else F a) = some o
    split
    · exact h.sub _ _ e
    · exact e
  refine ⟨fun a => if ∃ i, a ∈ fps i then H a else F a, fun a o e => ?_, Same.refl _, fun a ha => .inl ha, fun a o e _ => e, fun a e => e, by unfold VL.lend; rw [List.length_map]; exact h.len, fun i s e => ?_, fun i _ => rfl, fun _ => .nil, fun i j a ha => absurd ha List.not_mem_nil, fun i a ha => absurd ha List.not_mem_nil, .nil, fun _ _ ha => absurd ha List.not_mem_nil, fun t ht => absurd ht List.not_mem_nil⟩
  · have e' : (if ∃ i, a ∈ fps i then H a else F a) = some o := e
    split at e'
    · exact e'
    · exact h.sub _ _ e'
  · unfold VL.lend at e
    rw [List.getElem?_map] at e
    cases q : ρ[i]? with
    | none => rw [q] at e; cases e
    | some s0 =>
      rw [q] at e
      cases e
      have sl := h.slot i s0 q
      cases s0 with
      | no => rfl
      | fz d => obtain ⟨_, v, e2, r⟩ := sl; exact ⟨rfl, v, e2, Rep.mono sF d v r⟩
      | ow k d => obtain ⟨_, v, e2, r⟩ := sl; exact ⟨rfl, v, e2, OwnR.freeze sF k d v _ (fun a ha => at1 i a ha) r⟩
      | io j d => obtain ⟨a, e2, _, e4, r⟩ := sl; exact ⟨rfl, _, e2, OwnR.freeze sF 1 d _ _ (fun b hb => at1 i b (by rw [e4]; exact hb)) r⟩
theorem scal_rep {F' H' : Hp} {k : Nat} {d : D} {v : V} {fp : List Addr} (hs : scal d = true) (h : OwnR K F' H' k d v fp) : Rep K F d v := by
  cases k with
  | zero =>
    have r := h.2
    cases d <;> first | exact r | cases hs
  | succ k => cases d <;> first | exact h.2 | cases hs
end
def rLend (r : RE) : RE := fun ρ Q => r (lend ρ) fun d _ _ => scal d = true ∧ Q d 0 ρ
theorem ve_lend {X : Cx} {e : Expr} {r : RE} (h : VE X e r) : VE X e (rLend r) := by
  refine PE.weak h ?_
  rintro σ H Q' ⟨S, F, ρ, tmp, Q, ⟨fps, h⟩, hr, w⟩
  obtain ⟨F1, h1⟩ := h.lend
  refine tV.mk ⟨_, h1⟩ hr fun v H1 q => ?_
  obtain ⟨F2, ρ2, d, k, tm, s2, ⟨fps2, h2⟩, r2, hs, q⟩ := q
  have kp : ∀ a o, H a = some o → H1 a = some o := fun a o e => h2.keep a o e List.not_mem_nil
  refine w _ _ (VPost.of (Same.refl F) ⟨fps, ?_⟩ (scal_rep hs r2) q)
  refine h.change [] (Same.refl F) (fun a o e => kp a o (h.sub a o e)) (fun a q => .inl q) (fun a o e _ => kp a o e) (fun a q z => q (h2.live a z)) (fun a ha => absurd ha List.not_mem_nil) rfl fun i s e => .inl ⟨e, fun a _ z => absurd z List.not_mem_nil⟩
end VL

namespace VL
open PySem PySem.Spec PyProof.Rows L2

/-! ### lent, where a tuple of such things or a new list of them is told -/
mutual
def flat : D → Bool
  | .non => true
  | .bl _ => true
  | .int _ => true
  | .str _ => true
  | .tup ds => flats ds
  | _ => false
def flats : List D → Bool
  | [] => true
  | d :: ds => flat d && flats ds
end
def flatK : Nat → D → Bool
  | 0, d => flat d
  | 1, .lst ds => flats ds
  | _, d => scal d
theorem OwnR.kind {K : Fg} {F H : Hp} : ∀ (k : Nat) (d : D) (v : V) (fp : List Addr), OwnR K F H k d v fp → ∀ a ∈ fp, ∀ vs, H a ≠ some (.tup vs) := by
  intro k
  induction k with
  | zero => exact fun d v fp h a ha => by rw [h.1] at ha; exact absurd ha List.not_mem_nil
  | succ k ih =>
    intro d v fp h
    cases d with
    | lst ds =>
      obtain ⟨p, vs, fr, e, h, e2, t⟩ := h
      subst e2
      intro a ha
      rcases List.mem_cons.mp ha with z | z
      · subst z; intro us; rw [h]; exact nofun
      · exact OwnL.all (P := fun a => ∀ vs, H a ≠ some (.tup vs)) (fun d v f q => ih d v f q) t a z
    | tup ds =>
      obtain ⟨p, vs, e, h, t⟩ := h
      exact OwnL.all (P := fun a => ∀ vs, H a ≠ some (.tup vs)) (fun d v f q => ih d v f q) t
    | dct ks ds =>
      obtain ⟨p, vs, e, h, e2, t⟩ := h
      subst e2
      intro a ha
      have z : a = p := by simpa using ha
      subst z
      rcases h with ⟨l, h, _⟩ | ⟨l, h, _⟩ <;> (intro us; rw [h]; exact nofun)
    | non => exact fun a ha => by rw [h.1] at ha; exact absurd ha List.not_mem_nil
    | bl _ => exact fun a ha => by rw [h.1] at ha; exact absurd ha List.not_mem_nil
    | int _ => exact fun a ha => by rw [h.1] at ha; exact absurd ha List.not_mem_nil
    | str _ => exact fun a ha => by rw [h.1] at ha; exact absurd ha List.not_mem_nil
    | opq _ => exact fun a ha => by rw [h.1] at ha; exact absurd ha List.not_mem_nil
    | scr _ => exact fun a ha => by rw [h.1] at ha; exact absurd ha List.not_mem_nil
    | pdc _ _ => exact fun a ha => by rw [h.1] at ha; exact absurd ha List.not_mem_nil
    | exc _ _ _ => exact fun a ha => by rw [h.1] at ha; exact absurd ha List.not_mem_nil
section
variable {K : Fg} {S : Frm} {F F2 H H1 : Hp} {σ : L2.St} {ρ : Ev} {fps : Nat → List Addr} {tmp : List (Addr × HO)}
mutual
theorem flat_rep {F F' : Hp} (w : ∀ p vs, F p = some (.tup vs) → F' p = some (.tup vs)) : ∀ (d : D) (v : V), flat d = true → Rep K F d v → Rep K F' d v
  | .non, _, _, h => h
  | .bl _, _, _, h => h
  | .int _, _, _, h => h
  | .str _, _, _, h => h
  | .opq _, _, f, _ => by cases f
  | .scr _, _, f, _ => by cases f
  | .pdc _ _, _, f, _ => by cases f
  | .lst _, _, f, _ => by cases f
  | .dct _ _, _, f, _ => by cases f
  | .tup ds, _, f, ⟨p, vs, e, h, r⟩ => ⟨p, vs, e, h.imp (w p vs) id, flats_reps w ds vs f r⟩
theorem flats_reps {F F' : Hp} (w : ∀ p vs, F p = some (.tup vs) → F' p = some (.tup vs)) : ∀ (ds : List D) (vs : List V), flats ds = true → Reps K F ds vs → Reps K F' ds vs
  | [], _, _, h => h
  | d :: ds, _, f, ⟨v, r, e, h, t⟩ => by
    have f' := Bool.and_eq_true_iff.mp (show (flat d && flats ds) = true from f)
    exact ⟨v, r, e, flat_rep w d v f'.1 h, flats_reps w ds r f'.2 t⟩
end
theorem SRf.kind (h : SRf K S F H σ ρ fps tmp) : ∀ i a, a ∈ fps i → ∀ vs, H a ≠ some (.tup vs) := fun i a ha => by
  obtain ⟨s, e, q⟩ := h.at ha
  cases s with
  | no => rw [show fps i = [] from q] at ha; exact absurd ha List.not_mem_nil
  | fz d => rw [q.1] at ha; exact absurd ha List.not_mem_nil
  | ow k d => obtain ⟨_, v, _, r⟩ := q; exact OwnR.kind k d v _ r a ha
  | io j d => obtain ⟨b, _, _, e4, r⟩ := q; exact OwnR.kind 1 d _ _ r a (by rw [← e4]; exact ha)
open Classical in
theorem SRf.lend' (h : SRf K S F H σ ρ fps tmp) : ∃ F1, SRf K ⟨H, F1, []⟩ F1 H σ (VL.lend ρ) (fun _ => []) [] ∧ ∀ a, F1 a = if ∃ i, a ∈ fps i then H a else F a := by
  have at1 : ∀ i a, a ∈ fps i → (if ∃ i, a ∈ fps i then H a else F a) = H a := fun i a ha => if_pos ⟨i, ha⟩
  have sF : Same F (fun a => if ∃ i, a ∈ fps i then H a else F a) := fun a o e => by
    show (if ∃ i, a ∈ fps i then H a else F a) = some o
    split
    · exact h.sub _ _ e
    · exact e
  refine ⟨fun a => if ∃ i, a ∈ fps i then H a else F a, ⟨fun a o e => ?_, Same.refl _, fun a ha => .inl ha, fun a o e _ => e, fun a e => e, by unfold VL.lend; rw [List.length_map]; exact h.len, fun i s e => ?_, fun i _ => rfl, fun _ => .nil, fun i j a ha => absurd ha List.not_mem_nil, fun i a ha => absurd ha List.not_mem_nil, .nil, fun _ _ ha => absurd ha List.not_mem_nil, fun t ht => absurd ht List.not_mem_nil⟩, fun a => rfl⟩
  · have e' : (if ∃ i, a ∈ fps i then H a else F a) = some o := e
    split at e'
    · exact e'
    · exact h.sub _ _ e'
  · unfold VL.lend at e
    rw [List.getElem?_map] at e
    cases q : ρ[i]? with
    | none => rw [q] at e; cases e
    | some s0 =>
      rw [q] at e
      cases e
      have sl := h.slot i s0 q
      cases s0 with
      | no => rfl
      | fz d => obtain ⟨_, v, e2, r⟩ := sl; exact ⟨rfl, v, e2, Rep.mono sF d v r⟩
      | ow k d => obtain ⟨_, v, e2, r⟩ := sl; exact ⟨rfl, v, e2, OwnR.freeze sF k d v _ (fun a ha => at1 i a ha) r⟩
      | io j d => obtain ⟨a, e2, _, e4, r⟩ := sl; exact ⟨rfl, _, e2, OwnR.freeze sF 1 d _ _ (fun b hb => at1 i b (by rw [e4]; exact hb)) r⟩
open Classical in
theorem SRf.back {F1 : Hp} {ρ2 : Ev} {fps2 : Nat → List Addr} {tm : List (Addr × HO)} {k : Nat} {d : D} {v : V} (h : SRf K S F H σ ρ fps tmp) (hF : ∀ a, F1 a = if ∃ i, a ∈ fps i then H a else F a) (s : Same F1 F2) (h2 : SRf K ⟨H, F1, []⟩ F2 H1 σ ρ2 fps2 (tm ++ [])) (r : OwnR K F2 H1 k d v (tm.map (·.1))) (hk : flatK k d = true) :
    ∃ F', Same F F' ∧ SRf K S F' H1 σ ρ fps (tm ++ tmp) ∧ OwnR K F' H1 k d v (tm.map (·.1)) := by
  have kp : ∀ a o, H a = some o → H1 a = some o := fun a o e => h2.keep a o e List.not_mem_nil
  have inl : ∀ {i a}, a ∈ fps i → (if ∃ i, a ∈ fps i then none else F2 a) = none := fun {i a} ha => if_pos ⟨i, ha⟩
  have out : ∀ {a}, (¬ ∃ i, a ∈ fps i) → (if ∃ i, a ∈ fps i then none else F2 a) = F2 a := fun ha => if_neg ha
  have sF : Same F (fun a => if ∃ i, a ∈ fps i then none else F2 a) := fun a o e => by
    have na : ¬ ∃ i, a ∈ fps i := fun ⟨i, hi⟩ => by rw [h.free i a hi] at e; cases e
    show (if ∃ i, a ∈ fps i then none else F2 a) = some o
    rw [out na]
    exact s a o (by rw [hF a, if_neg na]; exact e)
  have tl : ∀ t ∈ tm, F2 t.1 = none ∧ H t.1 = none ∧ H1 t.1 = some t.2 := fun t ht => h2.freeT t (by rw [List.append_nil]; exact ht)
  have frz : ∀ p vs, F2 p = some (.tup vs) → (if ∃ i, p ∈ fps i then none else F2 p) = some (.tup vs) := fun p vs e => by
    have na : ¬ ∃ i, p ∈ fps i := fun ⟨i, hi⟩ => by
      have e1 := h2.sub _ _ e
      cases q : H p with
      | none => exact h.alive i p hi q
      | some o =>
        have e2 := kp p o q
        rw [e1] at e2
        cases e2
        exact h.kind i p hi vs q
    rw [out na]; exact e
  refine ⟨fun a => if ∃ i, a ∈ fps i then none else F2 a, sF, ⟨fun a o e => ?_, fun a o e => sF _ _ (h.f0 a o e), fun a ha => ?_, fun a o e ni => kp a o (h.keep a o e ni), fun a e => h.live a (h2.live a e), h.len, fun i sl e => ?_, h.off, h.nd, h.dis, fun i a ha => inl ha, ?_, fun i a ha hb => ?_, fun t ht => ?_⟩, ?_⟩
  · have e' : (if ∃ i, a ∈ fps i then none else F2 a) = some o := e
    split at e'
    · cases e'
    · exact h2.sub _ _ e'
  · have ha' : (if ∃ i, a ∈ fps i then none else F2 a) ≠ none := ha
    by_cases na : ∃ i, a ∈ fps i
    · exact absurd (if_pos na) ha'
    · rw [out na] at ha'
      rcases h2.fnew a ha' with z | z
      · have z' : F1 a ≠ none := z
        rw [hF a, if_neg na] at z'
        exact h.fnew a z'
      · exact .inr (h.live a z)
  · refine (h.slot i sl e).mono sF fun a ha => ?_
    cases q : H a with
    | none => exact absurd q (h.alive i a ha)
    | some o => exact kp a o q
  · have n2 := h2.ndT
    rw [List.append_nil] at n2
    rw [List.map_append]
    refine List.nodup_append.mpr ⟨n2, h.ndT, fun a ha b hb z => ?_⟩
    subst z
    obtain ⟨t, ht, e⟩ := List.mem_map.mp ha
    obtain ⟨t2, ht2, e2⟩ := List.mem_map.mp hb
    have z1 := (tl t ht).2.1
    have z2 := (h.freeT t2 ht2).2.2
    rw [e] at z1
    rw [e2, z1] at z2
    cases z2
  · rw [List.map_append] at hb
    rcases List.mem_append.mp hb with hb | hb
    · obtain ⟨t, ht, e⟩ := List.mem_map.mp hb
      have z1 := (tl t ht).2.1
      rw [e] at z1
      exact h.alive i a ha z1
    · exact h.disT i a ha hb
  · rcases List.mem_append.mp ht with ht | ht
    · obtain ⟨z1, z2, z3⟩ := tl t ht
      refine ⟨?_, h.live _ z2, z3⟩
      show (if ∃ i, t.1 ∈ fps i then none else F2 t.1) = none
      split
      · rfl
      · exact z1
    · obtain ⟨z1, z2, z3⟩ := h.freeT t ht
      refine ⟨?_, z2, kp _ _ z3⟩
      show (if ∃ i, t.1 ∈ fps i then none else F2 t.1) = none
      split
      · rfl
      · rename_i na
        cases q : F2 t.1 with
        | none => rfl
        | some o =>
          rcases h2.fnew t.1 (by rw [q]; exact nofun) with z | z
          · have z' : F1 t.1 ≠ none := z
            rw [hF t.1, if_neg na] at z'
            exact absurd z1 z'
          · have z' : H t.1 = none := z
            rw [z3] at z'; cases z'
  · match k, d, hk, r with
    | 0, d, hk, r => exact ⟨r.1, flat_rep frz d v hk r.2⟩
    | 1, .lst ds, hk, r =>
      obtain ⟨p, vs, e1, e2, e3, r⟩ := r.lst1_of
      rw [e1, e3]
      exact OwnR.lst1 e2 (flats_reps frz ds vs hk r)
    | 1, .non, _, r => exact ⟨r.1, r.2⟩
    | 1, .bl _, _, r => exact ⟨r.1, r.2⟩
    | 1, .int _, _, r => exact ⟨r.1, r.2⟩
    | 1, .str _, _, r => exact ⟨r.1, r.2⟩
    | n + 2, .non, _, r => exact ⟨r.1, r.2⟩
    | n + 2, .bl _, _, r => exact ⟨r.1, r.2⟩
    | n + 2, .int _, _, r => exact ⟨r.1, r.2⟩
    | n + 2, .str _, _, r => exact ⟨r.1, r.2⟩
end
def rLendL (r : RE) : RE := fun ρ Q => r (lend ρ) fun d k _ => flatK k d = true ∧ Q d k ρ
theorem ve_lendL {X : Cx} {e : Expr} {r : RE} (h : VE X e r) : VE X e (rLendL r) := by
  refine PE.weak h ?_
  rintro σ H Q' ⟨S, F, ρ, tmp, Q, ⟨fps, h⟩, hr, w⟩
  obtain ⟨F1, h1, hF⟩ := h.lend'
  refine tV.mk ⟨_, h1⟩ hr fun v H1 q => ?_
  obtain ⟨F2, ρ2, d, k, tm, s2, ⟨fps2, h2⟩, r2, hs, q⟩ := q
  obtain ⟨F', s', h', r'⟩ := h.back hF s2 h2 r2 hs
  exact w _ _ ⟨F', ρ, d, k, tm, s', ⟨fps, h'⟩, r', q⟩
end VL

namespace VL
open PySem PySem.Spec PyProof.Rows L2

/-! ### lists of lists, all of them owned -/
section
variable {X : Cx} {e : Expr} {pos : Pos} {K : Fg} {S : Frm} {F H : Hp} {σ : L2.St} {ρ : Ev} {fps : Nat → List Addr} {tmp tm : List (Addr × HO)} {i k : Nat}
theorem OwnL.mono {F F' H H' : Hp} {k : Nat} (s : Same F F') {ds : List D} {vs : List V} {fp : List Addr} (w : ∀ a ∈ fp, H' a = H a) (h : OwnL (OwnR K F H k) ds vs fp) : OwnL (OwnR K F' H' k) ds vs fp := h.imp fun d v f _ hf q => OwnR.mono s k d v f (fun a ha => w a (hf a ha)) q
theorem OwnL.snoc {R : D → V → List Addr → Prop} {d : D} {v : V} {f : List Addr} (hr : R d v f) : ∀ {ds : List D} {vs : List V} {fp : List Addr}, OwnL R ds vs fp → OwnL R (ds ++ [d]) (vs ++ [v]) (fp ++ f)
  | [], _, _, ⟨h, e⟩ => by subst h; subst e; exact ⟨v, [], f, [], rfl, (List.append_nil _).symm, hr, rfl, rfl⟩
  | x :: ds, _, _, ⟨v1, r1, f1, f2, e1, e2, h1, t⟩ => by
    subst e1; subst e2
    exact ⟨v1, r1 ++ [v], f1, f2 ++ f, rfl, by rw [List.append_assoc], h1, t.snoc hr⟩
theorem SRf.deep {j : Nat} {ds : List D} (h : SRf K S F H σ ρ fps tmp) (e : ρ[i]? = some (.ow (j + 1) (.lst ds))) : ∃ p vs, σ[i]? = some (some (.ref p)) ∧ H p = some (.lst vs) := by
  obtain ⟨_, v, e2, p, vs, fr, e3, e4, _⟩ := h.slot i _ e
  subst e3
  refine ⟨p, vs, ?_, e4⟩
  cases q : σ[i]? with
  | none => rw [q] at e2; cases e2
  | some u => rw [q] at e2; simp at e2; rw [e2]
end
end VL

namespace VL
open PySem PySem.Spec PyProof.Rows L2

/-! ### a place within what is owned: x[c][c'] .. by written numbers -/
def Foll (K : Fg) (H : Hp) : List Int → V → V → Prop
  | [], v, w => v = w
  | c :: cs, v, w => ∃ p xs u, v = .ref p ∧ (SqL K H p xs ∨ SqT K H p xs) ∧ atI xs c = some u ∧ Foll K H cs u w
theorem Foll.split {K : Fg} {H : Hp} {c : Int} : ∀ {cs : List Int} {v w : V}, Foll K H (cs ++ [c]) v w → ∃ p xs, Foll K H cs v (.ref p) ∧ (SqL K H p xs ∨ SqT K H p xs) ∧ atI xs c = some w
  | [], v, w, ⟨p, xs, u, e, h, a, q⟩ => by cases (show u = w from q); exact ⟨p, xs, e, h, a⟩
  | _ :: cs, v, w, ⟨p, xs, u, e, h, a, q⟩ => by
    obtain ⟨p2, xs2, f, h2, a2⟩ := Foll.split (cs := cs) q
    exact ⟨p2, xs2, ⟨p, xs, u, e, h, a, f⟩, h2, a2⟩
section
variable {X : Cx} {e a b : Expr} {es : List Expr} {pos apos cpos : Pos} {i : Nat} {c : Int} {cs : List Int}
end

/-! ### the thing at a place, and put anew -/
def dAt : List Int → D → Option D
  | [], d => some d
  | c :: cs, .lst ds => (atI ds c).bind (dAt cs)
  | c :: cs, .tup ds => (atI ds c).bind (dAt cs)
  | _ :: _, _ => none
def dPutL (f : D → D) (ds : List D) (c : Int) : List D := match ixN ds.length c with
  | some j => match ds[j]? with
    | some d => ds.set j (f d)
    | none => ds
  | none => ds
def dPut : List Int → D → D → D
  | [], d', _ => d'
  | c :: cs, d', .lst ds => .lst (dPutL (dPut cs d') ds c)
  | c :: cs, d', .tup ds => .tup (dPutL (dPut cs d') ds c)
  | _ :: _, _, d => d
theorem dPutL_at {f : D → D} {ds : List D} {c : Int} {j : Nat} {d : D} (h1 : ixN ds.length c = some j) (h2 : ds[j]? = some d) : dPutL f ds c = ds.set j (f d) := by
  unfold dPutL
  rw [h1]
  show (match ds[j]? with | some d => ds.set j (f d) | none => ds) = _
  rw [h2]
/-! ### a thing of one depth of owning taken as one of another -/
def canLift : Nat → Nat → D → Bool
  | 0, k', d => k' == 0 || flat d
  | k + 1, k', d => k + 1 == k' || flat d || (match k', d with
    | k' + 1, .lst ds => ds.all (canLift k k')
    | k' + 1, .tup ds => ds.all (canLift k k')
    | _, _ => false)
/-! ### what is pending, in another order -/
section
variable {X : Cx} {e a b o : Expr} {es : List Expr} {pos apos cpos : Pos} {K : Fg} {S : Frm} {F F1 H H1 : Hp} {σ : L2.St} {ρ ρ1 : Ev} {fps : Nat → List Addr} {tmp tmp' tm tA tr tB : List (Addr × HO)} {i k : Nat} {cs : List Int} {v : V} {d : D}
/-- x[c]..append(e): e as it is owned, or flat -/
def pathAt (ρ : Ev) (i : Nat) (cs : List Int) : Option (Nat × D × List D) := match ρ[i]? with
  | some (.ow k d) => if decide (cs.length < k) then (match dAt cs d with | some (.lst es) => some (k, d, es) | _ => none) else none
  | _ => none
def rAppP (i : Nat) (cs : List Int) (re : RE) : RE := fun ρ Q => match pathAt ρ i cs with
  | some (k, d, es) => es.length < sizeLine ∧ re (ρ.set i .no) fun d2 k2 ρ1 => noIo ρ1 i = true ∧ canLift k2 (k - cs.length - 1) d2 = true ∧ Q .non 0 (ρ1.set i (mkSl k (dPut cs (.lst (es ++ [d2])) d)))
  | none => False
/-- x[c]..reverse(), x[c]..clear() -/
def rRevP (i : Nat) (cs : List Int) : RE := fun ρ Q => match pathAt ρ i cs with
  | some (k, d, es) => Q .non 0 (ρ.set i (mkSl k (dPut cs (.lst es.reverse) d)))
  | none => False
def rClrP (i : Nat) (cs : List Int) : RE := fun ρ Q => match pathAt ρ i cs with
  | some (k, d, es) => Q .non 0 (ρ.set i (mkSl k (dPut cs (.lst []) d)))
  | none => False
end
end VL

set_option maxHeartbeats 1000000
namespace VL
open PySem
open PySem.Sem (wp)

/-! ### enumerate of a tuple -/
section
variable {prog : Program} {w : World} {A : Around} {E : Value → Shared → Prop} {s : Shared}
theorem enum_new1 {v : Value} {o : Obj} {H : Heap → Prop} (B : Begins v o H) : Meets (Builtin.«enumerate.__new__» ⟨[.type "enumerate", v], []⟩) fun _ R s =>
    H s.heap ∧ R (.ok (.ret (.ref (s.heap.push o).objs.size))) { s with heap := (s.heap.push o).push ⟨.type "enumerate", none, .fields #[.none, .bool false, .ref s.heap.objs.size, rawInt 0, .none, .none], #[]⟩ } :=
  .of_wp fun P u A R s hh => by
    obtain ⟨hp, gn, dd, tt, oo⟩ := s
    obtain ⟨hH, hR⟩ := hh
    have sb := sub_enumerate
    have it1 : ∀ {A2 : Around} {E2 : Value → Shared → Prop} {Q2 : Value → Shared → Prop}, Q2 (.ref hp.objs.size) ⟨hp.push o, gn, dd, tt, oo⟩ → wpAny (model P u) A2 (pyIter v) Q2 E2 ⟨hp, gn, dd, tt, oo⟩ := fun q => B.iter P u _ _ ⟨hp, gn, dd, tt, oo⟩ _ hH q
    wp_walk using it1
    refine wpAny_stack_any fun sk => wpAny_pure ?_
    split
    · rename_i c _ _ _ _ _
      cases (c == Value.type "enumerate") <;> (wp_walk using it1; exact ⟨_, rfl, hR⟩)
    · (wp_walk using it1; exact ⟨_, rfl, hR⟩)
theorem enum_of {v : Value} {o : Obj} {H : Heap → Prop} {Q : Value → Shared → Prop} (B : Begins v o H) (hH : H s.heap)
    (k : ∀ g, IsEnum g (s.heap.objs.size + 1) s.heap.objs.size 0 .none → g.get? s.heap.objs.size = some o → (∀ c x, s.heap.get? c = some x → g.get? c = some x) → Q (.ref (s.heap.objs.size + 1)) { s with heap := g }) :
    wpAny (model prog w) A (call (.type "enumerate") [v]) Q E s := by
  refine callType_new F.called_enumerate (by decide) (F.typeCall_enumerate_1 _) (F.newCall_enumerate_1 _) (fun ob => F.args_object_init_2 ob _) F.entry_enumerate_new (enum_new1 B) ⟨hH, ?_⟩
  have sz : (s.heap.push o).objs.size = s.heap.objs.size + 1 := Heap.size_push ..
  show _ ∧ _
  rw [sz]
  have en : IsEnum ((s.heap.push o).push ⟨.type "enumerate", none, .fields #[.none, .bool false, .ref s.heap.objs.size, rawInt 0, .none, .none], #[]⟩) (s.heap.objs.size + 1) s.heap.objs.size 0 .none := by
    have z := Heap.get?_push_size (s.heap.push o) (o := ⟨.type "enumerate", none, .fields #[.none, .bool false, .ref s.heap.objs.size, rawInt 0, .none, .none], #[]⟩) rfl
    rw [sz] at z
    exact z
  exact ⟨⟨_, en, rfl⟩, k _ en (Heap.get?_push_of_some _ (Heap.get?_push_size _ B.free)) fun c x z => Heap.get?_push_of_some _ (Heap.get?_push_of_some _ z)⟩
end
open PySem.Spec PyProof.Rows L2
/-- the tuple at a, each item in a new pair -/
def IteT (K : Fg) (a : Addr) : It where
  go := fun i H => ∃ xs x, SqT K H a xs ∧ xs[i]? = some x
  yld := fun i H v H' => ∃ T x, v = .ref T ∧ H T = none ∧ H' = upd H T (.tup [.int (i : Nat), x]) ∧ ∀ xs, SqT K H a xs → xs[i]? = some x
  stop := fun i H => ∃ xs : List V, SqT K H a xs ∧ xs.length ≤ i
theorem turn_enumT {P : Program} {w : World} {K : Fg} {elts : List Expr} {kk : Nat} {tpos : Pos} (a e it : Addr) :
    Turn P w K (.Tuple elts kk tpos) (IteT K a) [e, it] e (fun i h => (∃ old, IsEnum h e it (i : Int) old) ∧ h.IsTupleIter it a i ∧ e ≠ it ∧ a ≠ it ∧ a ≠ e) where
  mem := List.mem_cons_self
  obj := fun i h ⟨⟨old, he⟩, ⟨o, ho, hc, hd⟩, _⟩ b hb => by
    rcases List.mem_cons.mp hb with rfl | hb
    · exact ⟨_, he, fun v q => nomatch q⟩
    · rw [List.mem_singleton.mp hb]
      exact ⟨o, ho, fun v q => by rw [hd] at q; cases q⟩
  keep := fun i h h' ⟨⟨old, he⟩, hi, hne⟩ k => ⟨⟨old, k e List.mem_cons_self _ he⟩, hi.at fun o q => k it (List.mem_cons_of_mem _ List.mem_cons_self) o q, hne⟩
  item := by
    intro X hP hw hK hc i pins s σ H E I hf st hg
    subst hP hw hK
    obtain ⟨⟨old, he⟩, hit, hne, hai, hae⟩ := st
    obtain ⟨xs, x, hq, hx⟩ := hg
    obtain ⟨its, rv, p, hz⟩ := I.tuple hq
    obtain ⟨u, hu, ru⟩ := rv.get hx
    have le : e < s.heap.objs.size := Heap.lt_size he
    have li : it < s.heap.objs.size := by obtain ⟨_, q, _⟩ := hit; exact Heap.lt_size q
    have hlt : i < its.toArray.size := by
      obtain ⟨z, _⟩ := List.getElem?_eq_some_iff.mp hu
      simpa using z
    refine wpAny_pyNext_enum_itemD (Draws.tuple (A := X.A.in1) (I.ok.hd hc) it a hai its.toArray) he ⟨hit, p⟩ hlt hne (fun z => ?_) fun y g tk hy ho sg hT hsz hk => ?_
    · rcases List.mem_cons.mp z with z | z
      · exact hne z
      · exact hae (List.mem_singleton.mp z).symm
    have ey : y = u := by
      have hy' : its.toArray[i]? = some y := hy
      rw [show its.toArray[i]? = its[i]? by simp, hu] at hy'
      cases hy'; rfl
    subst ey
    refine ⟨_, rfl, wpAny_letOwnedTupleGo_enum (s := { s with heap := g, toks := tk + 1 }) ho fun g2 he2 sb => ?_⟩
    have hT2 : g2.get? s.heap.objs.size = some { cls := .type "tuple", data := .seq #[.int i tk, y] } := (sb.2 _ (Nat.ne_of_gt le)).trans hT
    have new : ObjOk X.prog X.w (upd H s.heap.objs.size (.tup [.int (i : Nat), x])) g2 s.heap.objs.size (.tup [.int (i : Nat), x]) :=
      ⟨by show 2 ≤ sizeLine; decide, [.int i tk, y], .cons ⟨_, rfl⟩ (.cons ru .nil), ⟨_, hT2, rfl, _, rfl⟩⟩
    have I1 : Inv X pins σ (upd H s.heap.objs.size (.tup [.int (i : Nat), x])) { s with heap := g2, toks := tk + 1 } :=
      I.turnedNew (ch := [e, it]) (fun b ob hb q => (sb.2 b (fun z => hb (by simp [z]))).trans (hk b ob (fun z => hb (by simp [z])) (fun z => hb (by simp [z])) q)) hf (Nat.le_refl _) new
    refine ⟨.ref s.heap.objs.size, _, I1, rfl, ⟨_, x, rfl, I.hok.fresh (Nat.le_refl _), rfl, fun ys hy => ?_⟩, ⟨⟨y, ?_⟩, sg.1.at fun o q => (sb.2 it (Ne.symm hne)).trans q, hne, hai, hae⟩, fun b hb => ?_⟩
    · obtain ⟨its2, rv2, p2, _⟩ := I.tuple hy
      obtain ⟨o1, m1, _, n1, d1⟩ := p
      obtain ⟨o2, m2, _, n2, d2⟩ := p2
      rw [m1] at m2
      cases m2
      rw [d1] at d2
      cases d2
      rw [rv2.inj rv]; exact hx
    · rw [show ((i + 1 : Nat) : Int) = (i : Int) + 1 by omega]; exact he2
    · have lb : b < s.heap.objs.size := by
        rcases List.mem_cons.mp hb with z | z
        · rw [z]; exact le
        · rw [List.mem_singleton.mp z]; exact li
      rw [upd_ne (Nat.ne_of_lt lb)]
      exact (hf b hb).1
  done := by
    intro X hP hw hK hc i pins s σ H E I hf st hg
    subst hP hw hK
    obtain ⟨⟨old, he⟩, hit, hne, hai, hae⟩ := st
    obtain ⟨xs, hq, hx⟩ := hg
    obtain ⟨its, rv, p, hz⟩ := I.tuple hq
    obtain ⟨f0, f1, f2, f3, f4, f5⟩ := hf it (List.mem_cons_of_mem _ List.mem_cons_self)
    have hl := rv.length
    have none : its.toArray[i]? = none := by simp; omega
    have D1 : Draws X.prog X.w X.A.in1 it [it, a] i (fun _ _ => True) (fun j h => j = i ∧ h.IsTupleIter it a j ∧ h.IsTuple a its.toArray) :=
      { live := fun _ _ st => let ⟨o, ho, _⟩ := st.2.1; ⟨o, ho⟩
        frame := fun _ _ _ st k => ⟨st.1, st.2.1.at fun o q => k it List.mem_cons_self o q, st.2.2.at fun o q => k a (List.mem_cons_of_mem _ List.mem_cons_self) o q⟩
        item := fun j s Q E hj st _ => absurd st.1 (Nat.ne_of_lt hj)
        done := fun s Q E st hE => wpAny_nextOf_tuple_end (I.ok.hd hc) st.2.1 st.2.2 none hE }
    exact wpAny_pyNext_enum_endD D1 he ⟨rfl, hit, p⟩ fun g eb => ⟨rfl, I.turned (t' := s.toks) (fun b o hb q => eb b o hb q) f0 f1 f3 f4 f5⟩
  self := fun A i s Q E ⟨⟨_, he⟩, _⟩ h => wpAny_pyIter_enum he h
theorem pi_enumT {X : Cx} {e : Expr} {ta : TA} {p pos tpos : Pos} {elts : List Expr} {kk : Nat} (hg : Gl X "enumerate") (hm : X.mg "enumerate" = none) (ha : PA X [e] ta) (hs : starEach [e] X.env = [(false, eval e X.env)] := by rfl) :
    PI X (.Tuple elts kk tpos) (.Call (.Name "enumerate" p) [e] [] pos) (fun σ H R => ta σ H fun vs H1 => ∃ a xs, vs = [.ref a] ∧ ((SqT X.K H1 a xs ∧ R (IteT X.K a) H1) ∨ (SqL X.K H1 a xs ∧ R (Ite X.K a) H1))) := by
  refine ⟨fun pins s σ H R I h => ?_⟩
  refine Call_ (ld_blt I hg hm boot_enumerate (PyProof.Rows.callWith_type1 (thn (ha.run pos pins s σ H _ I h) fun us s1 ⟨vs, H1, I1, r1, a, xs, ex, hq⟩ => ?_) hs rfl))
  subst ex
  cases r1 with
  | cons r rr =>
    cases rr
    cases r
    have fp : ∀ b ∈ [s1.heap.objs.size + 1, s1.heap.objs.size], FpOk X pins H1 b := fun b hb => by
      have le : s1.heap.objs.size ≤ b := by
        rcases List.mem_cons.mp hb with z | z
        · rw [z]; exact Nat.le_succ _
        · rw [List.mem_singleton.mp z]; exact Nat.le_refl _
      exact I1.fpOk le (I1.hok.fresh le)
    rcases hq with ⟨hq, q⟩ | ⟨hq, q⟩
    · obtain ⟨its, rv, pt, hz⟩ := I1.tuple hq
      have la : a < s1.heap.objs.size := by obtain ⟨_, z, _⟩ := pt; exact Heap.lt_size z
      refine enum_of (begins_tuple a its.toArray) pt fun g he hit hk => wpAny_pyIter_enum he ?_
      have I2 : Inv X pins σ H1 { s1 with heap := g } := I1.kept (t' := s1.toks) hk
      exact ⟨s1.heap.objs.size + 1, [s1.heap.objs.size + 1, s1.heap.objs.size], _, _, H1, rfl, I2, turn_enumT a (s1.heap.objs.size + 1) s1.heap.objs.size, ⟨⟨.none, he⟩, ⟨_, hit, rfl, rfl⟩, Nat.succ_ne_self _, Nat.ne_of_lt la, Nat.ne_of_lt (Nat.lt_succ_of_lt la)⟩, fp, q⟩
    · obtain ⟨its, rv, pt, hz⟩ := I1.list hq
      refine call_enumerate_list pt.isList fun g he hit hsz hk => wpAny_pyIter_enum he ?_
      have I2 : Inv X pins σ H1 { s1 with heap := g } := I1.kept (t' := s1.toks) hk
      exact ⟨s1.heap.objs.size + 1, [s1.heap.objs.size + 1, s1.heap.objs.size], _, _, H1, rfl, I2, turn_enum a (s1.heap.objs.size + 1) s1.heap.objs.size, ⟨⟨.none, he⟩, hit, Nat.succ_ne_self _⟩, fp, q⟩
theorem wk_enumT {K : Fg} {F1 : Hp} {p : Addr} {vs : List V} {ds : List D} (h : TupAt K F1 p vs) (r : Reps K F1 ds vs) : Wk K F1 (enumL 0 ds) (IteT K p) where
  go := fun F H i s1 s2 hi => by
    rw [enumL_len] at hi
    have hi2 : i < vs.length := by rw [r.length]; exact hi
    exact ⟨vs, vs[i], h.sq (s1.trans s2), List.getElem?_eq_getElem hi2⟩
  yld := fun F H H' i d x s1 s2 e y => by
    obtain ⟨T, x1, e1, hT, e2, y⟩ := y
    subst e2
    have q := y vs (h.sq (s1.trans s2))
    obtain ⟨x0, e3, e4⟩ := enumL_get 0 ds i d e
    obtain ⟨v, e5, rv⟩ := r.get e3
    rw [q] at e5
    cases e5
    have fT := s2.free hT
    refine ⟨_, .tup hT, ?_⟩
    subst e4
    refine ⟨T, _, e1, .inl upd_same, _, _, rfl, ?_, _, _, rfl, Rep.mono (s1.trans (Same.upd fT)) _ _ rv, rfl⟩
    rw [Nat.zero_add]
    exact rfl
  stop := fun F H i s1 s2 hi => by
    rw [enumL_len] at hi
    exact ⟨vs, h.sq (s1.trans s2), by rw [r.length]; exact hi⟩
def riEnumA (r : RF) : RI := fun ρ Q => r ρ fun ds ρ1 => match ds with
  | [.lst xs] => Q (enumL 0 xs) ρ1
  | [.tup xs] => Q (enumL 0 xs) ρ1
  | _ => False
theorem vi_enumA {X : Cx} {a : Expr} {p pos tpos : Pos} {elts : List Expr} {kk : Nat} {r : RF} (hg : Gl X "enumerate") (hm : X.mg "enumerate" = none) (ha : VF X [a] r) (hs : starEach [a] X.env = [(false, eval a X.env)] := by rfl) : VI X (.Tuple elts kk tpos) (.Call (.Name "enumerate" p) [a] [] pos) (riEnumA r) := by
  refine PI.weak (pi_enumT hg hm ha hs) ?_
  rintro σ H R ⟨S, F, ρ, tmp, Q, h, hr, w⟩
  refine tVF.mk h hr fun vs H1 ⟨F1, ρ1, ds, s1, h1, v1, q1⟩ => ?_
  have sub : Same F1 H1 := by obtain ⟨_, h1⟩ := h1; exact h1.sub
  cases ds with
  | nil => exact q1.elim
  | cons d r =>
    cases r with
    | cons _ _ => cases d <;> exact q1.elim
    | nil =>
      cases d with
      | lst xs =>
        obtain ⟨v, u, e, ⟨q, us, e2, hq, rr⟩, ru⟩ := v1
        cases ru
        subst e2
        exact ⟨q, us, e, .inr ⟨.inl (.inl (sub _ _ hq)), w _ _ ⟨F1, ρ1, _, s1, h1, wk_enum hq rr, q1⟩⟩⟩
      | tup xs =>
        obtain ⟨v, u, e, ⟨q, us, e2, hq, rr⟩, ru⟩ := v1
        cases ru
        subst e2
        exact ⟨q, us, e, .inl ⟨hq.sq sub, w _ _ ⟨F1, ρ1, _, s1, h1, wk_enumT hq rr, q1⟩⟩⟩
      | _ => exact q1.elim
end VL

set_option maxHeartbeats 2000000
namespace VL
open PySem PySem.Spec PyProof.Rows L2
local macro_rules | `(tactic| walk_at "v") => `(tactic| repeat (first | refine ⟨rfl, ?_⟩ | refine ⟨_, rfl, ?_⟩))
local macro_rules | `(tactic| walk_at "y") => `(tactic| refine ⟨fun _ => ?_, fun h => Bool.noConfusion (show true = false from h)⟩)
local macro_rules | `(tactic| walk_at "n") => `(tactic| refine ⟨fun h => Bool.noConfusion (show false = true from h), fun _ => ?_⟩)
local macro_rules | `(tactic| walk_at "ty") => `(tactic| refine ⟨_, rfl, by decide, ?_⟩)
local macro_rules | `(tactic| walk_at "tys") => `(tactic| refine ⟨_, rfl, _, rfl, by decide, ?_⟩)
local macro_rules | `(tactic| walk_at "z") => `(tactic| repeat (first | refine ⟨rfl, ?_⟩ | refine ⟨_, rfl, ?_⟩ | refine ⟨fun _ => ?_, fun h => Bool.noConfusion (show true = false from h)⟩ | refine ⟨fun h => Bool.noConfusion (show false = true from h), fun _ => ?_⟩ | refine ⟨tyIn rfl, ?_⟩ | refine ⟨tysIn rfl, ?_⟩ | refine ⟨smallL rfl, ?_⟩ | refine ⟨smallE rfl, ?_⟩))
local macro_rules | `(tactic| walk_at "zz") => `(tactic| repeat ((fail_if_success show forL _ _ _ _ _); first | refine ⟨rfl, ?_⟩ | refine ⟨_, rfl, ?_⟩ | refine ⟨fun _ => ?_, fun h => Bool.noConfusion (show true = false from h)⟩ | refine ⟨fun h => Bool.noConfusion (show false = true from h), fun _ => ?_⟩ | refine ⟨tyIn rfl, ?_⟩ | refine ⟨tysIn rfl, ?_⟩ | refine ⟨smallL rfl, ?_⟩ | refine ⟨smallE rfl, ?_⟩))
/-! ### habits -/
def okH (x : D) (s : St) : Bool := match x with
  | .int i => if s.ds.isEmpty then decide (i = -1) else decide (0 ≤ i) && decide (i < s.ds.length)
  | _ => false
def okHs : List D → List St → Bool
  | x :: xs, s :: ss => okH x s && okHs xs ss
  | [], [] => true
  | _, _ => false
def isHab (l : Land) : D → Bool
  | .tup xs => okHs xs l.sts
  | _ => false
theorem okHs_app : ∀ {xs ys : List D} {ss rs : List St}, okHs xs ss = true → okHs ys rs = true → okHs (xs ++ ys) (ss ++ rs) = true
  | [], _, [], _, _, h => h
  | [], _, _ :: _, _, h, _ => by cases h
  | _ :: _, _, [], _, h, _ => by cases h
  | x :: xs, _, s :: ss, _, h, h' => by
    have h : (okH x s && okHs xs ss) = true := h
    rw [Bool.and_eq_true] at h
    show (okH x s && okHs (xs ++ _) (ss ++ _)) = true
    rw [h.1, okHs_app h.2 h']; rfl

/-- a land's states and deeds, asked by their numbers -/
@[irreducible] def sp_deeds_of : ASp := fun ds R => ∃ (l : Land) (k : Nat) (s : St), ds = [dLand l, .int k] ∧ l.sts[k]? = some s ∧ R (.lst (s.ds.map dDeed)) 0 []
theorem sp_deeds_of.mk {l : Land} {k : Nat} {s : St} {R : RR} (h1 : l.sts[k]? = some s) (h : R (.lst (s.ds.map dDeed)) 0 []) : sp_deeds_of [dLand l, .int k] R := by unfold sp_deeds_of; exact ⟨l, k, s, rfl, h1, h⟩
@[irreducible] def sp_is_ending : ASp := fun ds R => ∃ (l : Land) (k : Nat) (s : St), ds = [dLand l, .int k] ∧ l.sts[k]? = some s ∧ R (.bl s.ds.isEmpty) 0 []
theorem sp_is_ending.mk {l : Land} {k : Nat} {s : St} {R : RR} (h1 : l.sts[k]? = some s) (h : R (.bl s.ds.isEmpty) 0 []) : sp_is_ending [dLand l, .int k] R := by unfold sp_is_ending; exact ⟨l, k, s, rfl, h1, h⟩
def dNs (n : Nat) : List D := (List.range n).map fun (i : Nat) => .int i
@[irreducible] def sp_states_of : ASp := fun ds R => ∃ (l : Land), ds = [dLand l] ∧ l.sts.length ≤ 900 ∧ R (.lst (dNs l.sts.length)) 1 []
theorem sp_states_of.mk {l : Land} {R : RR} (h1 : l.sts.length ≤ 900) (h : R (.lst (dNs l.sts.length)) 1 []) : sp_states_of [dLand l] R := by unfold sp_states_of; exact ⟨l, rfl, h1, h⟩
@[irreducible] def sp_is_choice : ASp := fun ds R => ∃ (l : Land) (k : Nat) (s : St) (d : D), ds = [dLand l, .int k, d] ∧ l.sts[k]? = some s ∧ (tyD d).isSome = true ∧ R (.bl (okH d s)) 0 []
theorem sp_is_choice.mk {l : Land} {k : Nat} {s : St} {d : D} {R : RR} (h1 : l.sts[k]? = some s) (h2 : (tyD d).isSome = true) (h : R (.bl (okH d s)) 0 []) : sp_is_choice [dLand l, .int k, d] R := by unfold sp_is_choice; exact ⟨l, k, s, d, rfl, h1, h2, h⟩
@[irreducible] def sp_is_row : ASp := fun ds R => ∃ (l : Land) (d : D) (L B j : Nat), ds = [dLand l, d] ∧ l.sts.length ≤ 900 ∧ d.dab L B j ∧ L ≤ 900 ∧ R (.bl (isHab l d)) 0 []
theorem sp_is_row.mk {l : Land} {d : D} {L B j : Nat} {R : RR} (h1 : l.sts.length ≤ 900) (h2 : d.dab L B j) (h3 : L ≤ 900) (h : R (.bl (isHab l d)) 0 []) : sp_is_row [dLand l, d] R := by unfold sp_is_row; exact ⟨l, d, L, B, j, rfl, h1, h2, h3, h⟩
def isPlan (l : Land) (n : Int) : D → Bool
  | .lst rows => decide ((rows.length : Int) = n) && rows.all (isHab l)
  | _ => false
@[irreducible] def sp_is_plan : ASp := fun ds R => ∃ (l : Land) (n : Int) (d : D) (L B j : Nat), ds = [dLand l, .int n, d] ∧ l.sts.length ≤ 900 ∧ d.dab L B j ∧ L ≤ 900 ∧ R (.bl (isPlan l n d)) 0 []
theorem sp_is_plan.mk {l : Land} {n : Int} {d : D} {L B j : Nat} {R : RR} (h1 : l.sts.length ≤ 900) (h2 : d.dab L B j) (h3 : L ≤ 900) (h : R (.bl (isPlan l n d)) 0 []) : sp_is_plan [dLand l, .int n, d] R := by unfold sp_is_plan; exact ⟨l, n, d, L, B, j, rfl, h1, h2, h3, h⟩
/-- the first deeds -/
def fstRow (l : Land) : D := .tup (l.sts.map fun s => .int (if s.ds.isEmpty then -1 else 0))
@[irreducible] def sp_first_row : ASp := fun ds R => ∃ (l : Land), ds = [dLand l] ∧ l.sts.length ≤ 900 ∧ R (fstRow l) 0 []
theorem sp_first_row.mk {l : Land} {R : RR} (h1 : l.sts.length ≤ 900) (h : R (fstRow l) 0 []) : sp_first_row [dLand l] R := by unfold sp_first_row; exact ⟨l, rfl, h1, h⟩
@[irreducible] def sp_first_plan : ASp := fun ds R => ∃ (l : Land) (n : Nat), ds = [dLand l, .int n] ∧ l.sts.length ≤ 900 ∧ n ≤ 900 ∧ R (.lst ((List.range n).map fun _ => fstRow l)) 1 []
theorem sp_first_plan.mk {l : Land} {n : Nat} {R : RR} (h1 : l.sts.length ≤ 900) (h2 : n ≤ 900) (h : R (.lst ((List.range n).map fun _ => fstRow l)) 1 []) : sp_first_plan [dLand l, .int n] R := by unfold sp_first_plan; exact ⟨l, n, rfl, h1, h2, h⟩
/-- a plan drawn: rows of choices -/
def dPlan (ps : List (List Int)) : List D := ps.map fun r => .tup (r.map .int)
structure PlanOk (l : Land) (n : Nat) (ps : List (List Int)) : Prop where
  len : ps.length = n
  rows : ∀ r ∈ ps, r.length = l.sts.length ∧ (∀ h ∈ r, -1 ≤ h ∧ h ≤ 8) ∧ isHab l (.tup (r.map .int)) = true
@[irreducible] def sp_l_plan : ASp := fun ds R => ∃ (t : Tp) (l : Land) (k n : Nat), ds = [dT t, dLand l, .int k] ∧ LandOk l ∧ k ≤ 100 ∧ t.ok (n + 8 * k) ∧ ∀ ps t', PlanOk l k ps → t'.ok n → R (.lst (dPlan ps)) 1 [dT t']
theorem sp_l_plan.mk {t : Tp} {l : Land} {k : Nat} {R : RR} (n : Nat) (h1 : LandOk l) (h2 : k ≤ 100) (h3 : t.ok (n + 8 * k)) (h : ∀ ps t', PlanOk l k ps → t'.ok n → R (.lst (dPlan ps)) 1 [dT t']) : sp_l_plan [dT t, dLand l, .int k] R := by unfold sp_l_plan; exact ⟨t, l, k, n, rfl, h1, h2, h3, h⟩
/-- numbers, in rows and tuples: all of them -/
def D.nums : Nat → D → Bool
  | _, .int _ => true
  | m + 1, .tup ds => Nat.ble ds.length 90000 && ds.all (D.nums m)
  | m + 1, .lst ds => Nat.ble ds.length 90000 && ds.all (D.nums m)
  | _, _ => false
@[irreducible] def sp_l_same_d6123a (m : Nat) : ASp := fun ds R => ∃ (d : D) (j : Nat), ds = [d, d] ∧ j ≤ m ∧ j ≤ 60 ∧ d.nums j = true ∧ R (.bl true) 0 []
theorem sp_l_same_d6123a.mk {m : Nat} {d : D} {R : RR} (j : Nat) (hj : j ≤ m) (hj2 : j ≤ 60) (ho : d.nums j = true) (h : R (.bl true) 0 []) : sp_l_same_d6123a m [d, d] R := by unfold sp_l_same_d6123a; exact ⟨d, j, rfl, hj, hj2, ho, h⟩
theorem at_st {l : Land} {k : Nat} {s : St} (h : l.sts[k]? = some s) : atI (l.sts.map dSt) (k : Int) = some (dSt s) := atI_nat (by rw [List.getElem?_map, h]; rfl)
theorem PlanOk.nil (l : Land) : PlanOk l 0 [] := ⟨rfl, fun r hr => absurd hr List.not_mem_nil⟩
end VL

set_option maxHeartbeats 2000000
namespace VL
open PySem PySem.Spec PyProof.Rows L2
local macro_rules | `(tactic| walk_at "n") => `(tactic| refine ⟨fun h => Bool.noConfusion (show false = true from h), fun _ => ?_⟩)
local macro_rules | `(tactic| walk_at "ty") => `(tactic| refine ⟨_, rfl, by decide, ?_⟩)
local macro_rules | `(tactic| walk_at "tys") => `(tactic| refine ⟨_, rfl, _, rfl, by decide, ?_⟩)
local macro_rules | `(tactic| walk_at "v") => `(tactic| repeat (first | refine ⟨rfl, ?_⟩ | refine ⟨_, rfl, ?_⟩))
local macro_rules | `(tactic| walk_at "y") => `(tactic| refine ⟨fun _ => ?_, fun h => Bool.noConfusion (show true = false from h)⟩)
local macro_rules | `(tactic| walk_at "z") => `(tactic| repeat (first | refine ⟨rfl, ?_⟩ | refine ⟨_, rfl, ?_⟩ | refine ⟨fun _ => ?_, fun h => Bool.noConfusion (show true = false from h)⟩ | refine ⟨fun h => Bool.noConfusion (show false = true from h), fun _ => ?_⟩ | refine ⟨tyIn rfl, ?_⟩ | refine ⟨tysIn rfl, ?_⟩ | refine ⟨smallL rfl, ?_⟩ | refine ⟨smallE rfl, ?_⟩))
local macro_rules | `(tactic| walk_at "zz") => `(tactic| repeat ((fail_if_success show forL _ _ _ _ _); first | refine ⟨rfl, ?_⟩ | refine ⟨_, rfl, ?_⟩ | refine ⟨fun _ => ?_, fun h => Bool.noConfusion (show true = false from h)⟩ | refine ⟨fun h => Bool.noConfusion (show false = true from h), fun _ => ?_⟩ | refine ⟨tyIn rfl, ?_⟩ | refine ⟨tysIn rfl, ?_⟩ | refine ⟨smallL rfl, ?_⟩ | refine ⟨smallE rfl, ?_⟩))
/-! ### worths of all states, what plans have -/
def dWs (ws : List (List Rat)) : D := .lst (ws.map dw)
def Land.ends (l : Land) : List (List Rat) := l.sts.map (·.e)
def hadBy (d : Deed) (later : List (List Rat)) : List Rat := d.fs.foldl (fun f x => qadd f (qscale (later.getD x.1 []) x.2)) d.w
def hadSt (s : St) (i : Int) (later : List (List Rat)) : List Rat := if s.ds.isEmpty then s.e else match s.ds[i.toNat]? with
  | some d => hadBy d later
  | none => []
def hadRow (l : Land) (row : List Int) (later : List (List Rat)) : List (List Rat) := (l.sts.zip row).map fun x => hadSt x.1 x.2 later
def sumsFrom (l : Land) : List (List Rat) → List (List Int) → List (List (List Rat))
  | later, [] => [later]
  | later, r :: ps => later :: sumsFrom l (hadRow l r later) ps
def sumsL (l : Land) (ps : List (List Int)) : List (List (List Rat)) := sumsFrom l l.ends ps
def lastRow (l : Land) : List (List Rat) → List (List Int) → List (List Rat)
  | later, [] => later
  | later, r :: ps => lastRow l (hadRow l r later) ps
/-- rows of worths: n of them, k kinds, numbers to c bits -/
def WOk (n k c : Nat) (ws : List (List Rat)) : Prop := ws.length = n ∧ ∀ w ∈ ws, w.length = k ∧ allw c w
theorem WOk.le {n k c c' : Nat} {ws : List (List Rat)} (h : WOk n k c ws) (l : c ≤ c') : WOk n k c' ws := ⟨h.1, fun w hw => ⟨(h.2 w hw).1, allw_le (h.2 w hw).2 l⟩⟩
theorem WOk.at {n k c i : Nat} {ws : List (List Rat)} (h : WOk n k c ws) (hi : i < n) : ∃ w, ws[i]? = some w ∧ ws.getD i [] = w ∧ w.length = k ∧ allw c w := by
  have hi' : i < ws.length := by rw [h.1]; exact hi
  have e : ws[i]? = some ws[i] := List.getElem?_eq_getElem hi'
  exact ⟨ws[i], e, by rw [List.getD_eq_getElem?_getD, e]; rfl, (h.2 _ (List.getElem_mem hi')).1, (h.2 _ (List.getElem_mem hi')).2⟩
/-- a row of choices for a land -/
def RowOk (l : Land) (row : List Int) : Prop := row.length = l.sts.length ∧ (∀ h ∈ row, -1 ≤ h ∧ h ≤ 8) ∧ isHab l (.tup (row.map .int)) = true
theorem okHs_at : ∀ {row : List Int} {ss : List St} {i : Nat} {s : St} {h : Int}, okHs (row.map .int) ss = true → ss[i]? = some s → row[i]? = some h → okH (.int h) s = true
  | [], ss, i, s, h, _, _, e => by simp at e
  | r :: row, [], i, s, h, ho, _, _ => by cases ho
  | r :: row, x :: ss, 0, s, h, ho, e1, e2 => by
    have ho' : (okH (.int r) x && okHs (row.map .int) ss) = true := ho
    rw [Bool.and_eq_true] at ho'
    cases (show some x = some s from e1)
    cases (show some r = some h from e2)
    exact ho'.1
  | r :: row, x :: ss, i + 1, s, h, ho, e1, e2 => by
    have ho' : (okH (.int r) x && okHs (row.map .int) ss) = true := ho
    rw [Bool.and_eq_true] at ho'
    exact okHs_at (i := i) ho'.2 e1 e2
theorem RowOk.at {l : Land} {row : List Int} {i : Nat} {s : St} (h : RowOk l row) (hs : l.sts[i]? = some s) : ∃ z, row[i]? = some z ∧ okH (.int z) s = true := by
  have hi : i < row.length := by rw [h.1]; exact (List.getElem?_eq_some_iff.mp hs).1
  have e : row[i]? = some row[i] := List.getElem?_eq_getElem hi
  exact ⟨_, e, okHs_at h.2.2 hs e⟩
theorem okH_end {z : Int} {s : St} (h : okH (.int z) s = true) (he : s.ds.isEmpty = true) : z = -1 := by
  have h' : (if s.ds.isEmpty then decide (z = -1) else decide (0 ≤ z) && decide (z < s.ds.length)) = true := h
  rw [he, if_pos rfl] at h'
  exact of_decide_eq_true h'
theorem okH_deed {z : Int} {s : St} (h : okH (.int z) s = true) (he : s.ds.isEmpty = false) : ∃ d, 0 ≤ z ∧ s.ds[z.toNat]? = some d ∧ atI s.ds z = some d ∧ d ∈ s.ds := by
  have h' : (if s.ds.isEmpty then decide (z = -1) else decide (0 ≤ z) && decide (z < s.ds.length)) = true := h
  rw [he, if_neg (by decide), Bool.and_eq_true] at h'
  have h0 := of_decide_eq_true h'.1
  have h1 := of_decide_eq_true h'.2
  have hi : z.toNat < s.ds.length := by omega
  have e : s.ds[z.toNat]? = some s.ds[z.toNat] := List.getElem?_eq_getElem hi
  refine ⟨_, h0, e, ?_, List.getElem_mem hi⟩
  unfold atI ixN
  rw [if_pos h0, if_pos h1]
  exact e
theorem LandOk.st {l : Land} {i : Nat} {s : St} (h : LandOk l) (hs : l.sts[i]? = some s) : StOk l.k l.sts.length s := h.sts s (List.mem_of_getElem? hs)
theorem zip_at {α β : Type} : ∀ {xs : List α} {ys : List β} {i : Nat} {x : α} {y : β}, xs[i]? = some x → ys[i]? = some y → (xs.zip ys)[i]? = some (x, y)
  | [], _, _, _, _, e, _ => by simp at e
  | _ :: _, [], _, _, _, _, e => by simp at e
  | x :: xs, y :: ys, 0, _, _, e1, e2 => by cases e1; cases e2; rfl
  | x :: xs, y :: ys, i + 1, _, _, e1, e2 => zip_at (i := i) (xs := xs) (ys := ys) e1 e2
theorem PlanOk.row {l : Land} {n : Nat} {ps : List (List Int)} (h : PlanOk l n ps) : ∀ r ∈ ps, RowOk l r := h.rows
@[irreducible] def sp_end_of : ASp := fun ds R => ∃ (l : Land) (k : Nat) (s : St), ds = [dLand l, .int k] ∧ l.sts[k]? = some s ∧ R (dw s.e) 0 []
theorem sp_end_of.mk {l : Land} {k : Nat} {s : St} {R : RR} (h1 : l.sts[k]? = some s) (h : R (dw s.e) 0 []) : sp_end_of [dLand l, .int k] R := by unfold sp_end_of; exact ⟨l, k, s, rfl, h1, h⟩
@[irreducible] def sp_ends : ASp := fun ds R => ∃ (l : Land), ds = [dLand l] ∧ l.sts.length ≤ 900 ∧ R (dWs l.ends) 1 []
theorem sp_ends.mk {l : Land} {R : RR} (h1 : l.sts.length ≤ 900) (h : R (dWs l.ends) 1 []) : sp_ends [dLand l] R := by unfold sp_ends; exact ⟨l, rfl, h1, h⟩
@[irreducible] def sp_had_by : ASp := fun ds R => ∃ (d : Deed) (later : List (List Rat)) (n k c : Nat), ds = [dDeed d, dWs later] ∧ DeedOk k n d ∧ k ≤ 900 ∧ WOk n k c later ∧ c ≤ 5000000 ∧ R (dw (hadBy d later)) 0 []
theorem sp_had_by.mk {d : Deed} {later : List (List Rat)} {R : RR} (n k c : Nat) (h1 : DeedOk k n d) (h2 : k ≤ 900) (h3 : WOk n k c later) (h4 : c ≤ 5000000) (h : R (dw (hadBy d later)) 0 []) : sp_had_by [dDeed d, dWs later] R := by unfold sp_had_by; exact ⟨d, later, n, k, c, rfl, h1, h2, h3, h4, h⟩
@[irreducible] def sp_had_by_row : ASp := fun ds R => ∃ (l : Land) (row : List Int) (later : List (List Rat)) (c : Nat), ds = [dLand l, .tup (row.map .int), dWs later] ∧ LandOk l ∧ RowOk l row ∧ WOk l.sts.length l.k c later ∧ c ≤ 5000000 ∧ R (dWs (hadRow l row later)) 1 []
theorem sp_had_by_row.mk {l : Land} {row : List Int} {later : List (List Rat)} {R : RR} (c : Nat) (h1 : LandOk l) (h2 : RowOk l row) (h3 : WOk l.sts.length l.k c later) (h4 : c ≤ 5000000) (h : R (dWs (hadRow l row later)) 1 []) : sp_had_by_row [dLand l, .tup (row.map .int), dWs later] R := by unfold sp_had_by_row; exact ⟨l, row, later, c, rfl, h1, h2, h3, h4, h⟩
def dSums (l : Land) (ps : List (List Int)) : D := .lst ((sumsL l ps).map dWs)
@[irreducible] def sp_sums : ASp := fun ds R => ∃ (l : Land) (ps : List (List Int)) (n : Nat), ds = [dLand l, .lst (dPlan ps)] ∧ LandOk l ∧ PlanOk l n ps ∧ n ≤ 6 ∧ R (dSums l ps) 2 []
theorem sp_sums.mk {l : Land} {ps : List (List Int)} {R : RR} (n : Nat) (h1 : LandOk l) (h2 : PlanOk l n ps) (h3 : n ≤ 6) (h : R (dSums l ps) 2 []) : sp_sums [dLand l, .lst (dPlan ps)] R := by unfold sp_sums; exact ⟨l, ps, n, rfl, h1, h2, h3, h⟩
@[irreducible] def sp_had : ASp := fun ds R => ∃ (l : Land) (ps : List (List Int)) (n k : Nat), ds = [dLand l, .lst (dPlan ps), .int k] ∧ LandOk l ∧ PlanOk l n ps ∧ n ≤ 6 ∧ k < l.sts.length ∧ R (dw ((lastRow l l.ends ps).getD k [])) 0 []
theorem sp_had.mk {l : Land} {ps : List (List Int)} {k : Nat} {R : RR} (n : Nat) (h1 : LandOk l) (h2 : PlanOk l n ps) (h3 : n ≤ 6) (h4 : k < l.sts.length) (h : R (dw ((lastRow l l.ends ps).getD k [])) 0 []) : sp_had [dLand l, .lst (dPlan ps), .int k] R := by unfold sp_had; exact ⟨l, ps, n, k, rfl, h1, h2, h3, h4, h⟩
@[irreducible] def sp_l_sums : ASp := fun ds R => ∃ (l : Land) (ps : List (List Int)) (n : Nat), ds = [dLand l, .lst (dPlan ps)] ∧ LandOk l ∧ PlanOk l n ps ∧ n ≤ 6 ∧ R (dSums l ps) 1 []
theorem sp_l_sums.mk {l : Land} {ps : List (List Int)} {R : RR} (n : Nat) (h1 : LandOk l) (h2 : PlanOk l n ps) (h3 : n ≤ 6) (h : R (dSums l ps) 1 []) : sp_l_sums [dLand l, .lst (dPlan ps)] R := by unfold sp_l_sums; exact ⟨l, ps, n, rfl, h1, h2, h3, h⟩
/-- a loop over things made of xs: the state is st of what is carried -/
theorem forL_fold {α β : Type} {rg : RG} {rb : RS} {E : EN} {g : α → D} {st : β → Ev} {f : β → α → β} {P : β → List α → Prop}
    (step : ∀ (a : β) (z : α) (zs : List α) (N : Ev → Prop), P a (z :: zs) → (P (f a z) zs → N (st (f a z))) → rg (g z) (st a) fun ρ1 => rb ρ1 { nx := N, rt := E.rt, ct := N, bk := E.nx }) :
    ∀ (xs : List α) (a : β), P a xs → (P (xs.foldl f a) [] → E.nx (st (xs.foldl f a))) → forL rg rb (xs.map g) (st a) E
  | [], a, h, fin => fin h
  | x :: xs, a, h, fin => step a x xs _ h fun h2 => forL_fold step xs (f a x) h2 fin
theorem atI_mp {α : Type} {g : α → D} {xs : List α} {i : Nat} {x : α} (h : xs[i]? = some x) : atI (xs.map g) (i : Int) = some (g x) := atI_nat (by rw [List.getElem?_map, h]; rfl)
theorem enumL_map {α : Type} (g : α → D) : ∀ (xs : List α) (n : Nat), enumL n (xs.map g) = (xs.zipIdx n).map fun x => D.tup [.int (x.2 : Nat), g x.1]
  | [], _ => rfl
  | x :: xs, n => by
    show D.tup [.int (n : Int), g x] :: enumL (n + 1) (xs.map g) = _
    rw [enumL_map g xs (n + 1)]
    rfl
theorem foldl_app {α β : Type} (h : α → β) : ∀ (xs : List α) (acc : List β), xs.foldl (fun acc x => acc ++ [h x]) acc = acc ++ xs.map h
  | [], acc => (List.append_nil _).symm
  | x :: xs, acc => by rw [List.foldl_cons, foldl_app h xs, List.map_cons, List.append_assoc]; rfl
end VL

set_option maxHeartbeats 2000000
namespace VL
open PySem PySem.Spec PyProof.Rows L2
/-! ### told things changed -/
section
variable {ρ : Ev} {i k : Nat} {cs : List Int} {d : D} {es : List D} {Q : QE} {re : RE}
theorem pathAt.mk (h1 : ρ[i]? = some (.ow k d)) (h2 : cs.length < k) (h3 : dAt cs d = some (.lst es)) : pathAt ρ i cs = some (k, d, es) := by
  unfold pathAt
  rw [h1]
  show (if decide (cs.length < k) then _ else _) = _
  rw [if_pos (decide_eq_true h2), h3]
theorem rRevP.mk (h1 : ρ[i]? = some (.ow k d)) (h2 : cs.length < k) (h3 : dAt cs d = some (.lst es)) (q : Q .non 0 (ρ.set i (mkSl k (dPut cs (.lst es.reverse) d)))) : rRevP i cs ρ Q := by
  unfold rRevP
  rw [pathAt.mk h1 h2 h3]
  exact q
theorem rClrP.mk (h1 : ρ[i]? = some (.ow k d)) (h2 : cs.length < k) (h3 : dAt cs d = some (.lst es)) (q : Q .non 0 (ρ.set i (mkSl k (dPut cs (.lst []) d)))) : rClrP i cs ρ Q := by
  unfold rClrP
  rw [pathAt.mk h1 h2 h3]
  exact q
theorem rAppP.mk (h1 : ρ[i]? = some (.ow k d)) (h2 : cs.length < k) (h3 : dAt cs d = some (.lst es)) (h4 : es.length < sizeLine) (q : re (ρ.set i .no) fun d2 k2 ρ1 => noIo ρ1 i = true ∧ canLift k2 (k - cs.length - 1) d2 = true ∧ Q .non 0 (ρ1.set i (mkSl k (dPut cs (.lst (es ++ [d2])) d)))) : rAppP i cs re ρ Q := by
  unfold rAppP
  rw [pathAt.mk h1 h2 h3]
  exact ⟨h4, q⟩
end
theorem ixN_zero {n : Nat} (h : 0 < n) : ixN n 0 = some 0 := by
  unfold ixN
  rw [if_pos (Int.le_refl _), if_pos (by omega)]
  rfl
theorem ixN_last {n : Nat} (h : 0 < n) : ixN n (-1) = some (n - 1) := by
  unfold ixN
  rw [if_neg (by decide), if_pos (by omega)]
  congr 1
  omega
/-- lists alone, one at least -/
def lls (xs : List D) : Prop := xs ≠ [] ∧ ∀ x ∈ xs, ∃ ys : List D, x = .lst ys ∧ ys.length ≤ 1000
theorem lls.first {xs : List D} (h : lls xs) : ∃ ys, dAt [0] (.lst xs) = some (.lst ys) ∧ ys.length ≤ 1000 ∧ ∀ zs : List D, zs.length ≤ 1000 → ∃ xs', dPut [0] (.lst zs) (.lst xs) = .lst xs' ∧ lls xs' ∧ xs'.length = xs.length := by
  obtain ⟨h1, h2⟩ := h
  cases xs with
  | nil => exact absurd rfl h1
  | cons x xs =>
    obtain ⟨ys, rfl, hy⟩ := h2 x (by simp)
    have hp : 0 < (D.lst ys :: xs).length := Nat.succ_pos _
    refine ⟨ys, ?_, hy, fun zs hz => ⟨.lst zs :: xs, ?_, ⟨nofun, fun x hx => ?_⟩, rfl⟩⟩
    · show (atI (D.lst ys :: xs) 0).bind (dAt []) = _
      unfold atI
      rw [ixN_zero hp]
      rfl
    · show D.lst (dPutL (dPut [] (.lst zs)) (D.lst ys :: xs) 0) = _
      rw [dPutL_at (ixN_zero hp) (d := .lst ys) rfl]
      rfl
    · rcases List.mem_cons.mp hx with rfl | hx
      · exact ⟨zs, rfl, hz⟩
      · exact h2 x (List.mem_cons_of_mem _ hx)
theorem lls.last {xs : List D} (h : lls xs) : ∃ ys, dAt [-1] (.lst xs) = some (.lst ys) ∧ ys.length ≤ 1000 ∧ ∀ zs : List D, zs.length ≤ 1001 → ∃ xs', dPut [-1] (.lst zs) (.lst xs) = .lst xs' ∧ xs'.length = xs.length := by
  obtain ⟨h1, h2⟩ := h
  have hp : 0 < xs.length := by
    cases xs with
    | nil => exact absurd rfl h1
    | cons x xs => exact Nat.succ_pos _
  have hl : xs[xs.length - 1]? = some xs[xs.length - 1] := List.getElem?_eq_getElem (by omega)
  obtain ⟨ys, e, hy⟩ := h2 _ (List.mem_of_getElem? hl)
  rw [e] at hl
  refine ⟨ys, ?_, hy, fun zs _ => ⟨xs.set (xs.length - 1) (.lst zs), ?_, List.length_set⟩⟩
  · show (atI xs (-1)).bind (dAt []) = _
    unfold atI
    rw [ixN_last hp]
    show (xs[xs.length - 1]?).bind _ = _
    rw [hl]
    rfl
  · show D.lst (dPutL (dPut [] (.lst zs)) xs (-1)) = _
    rw [dPutL_at (ixN_last hp) hl]
    rfl
theorem cutL_take (xs : List D) (m : Nat) : cutL xs none (some (m : Int)) = xs.take m := by
  unfold cutL
  have e1 : HT.sIx xs.length 0 none = 0 := rfl
  have e2 : HT.sIx xs.length xs.length (some (m : Int)) = min m xs.length := HT.sIx_nat _ _ _
  rw [e1, e2, List.drop_zero, Nat.sub_zero]
  rcases Nat.le_total m xs.length with h | h
  · rw [Nat.min_eq_left h]
  · rw [Nat.min_eq_right h, List.take_length, List.take_of_length_le h]
end VL

set_option maxHeartbeats 2000000
namespace VL
open PySem PySem.Spec PyProof.Rows L2
local macro_rules | `(tactic| walk_at "n") => `(tactic| refine ⟨fun h => Bool.noConfusion (show false = true from h), fun _ => ?_⟩)
local macro_rules | `(tactic| walk_at "ty") => `(tactic| refine ⟨_, rfl, by decide, ?_⟩)
local macro_rules | `(tactic| walk_at "tys") => `(tactic| refine ⟨_, rfl, _, rfl, by decide, ?_⟩)
local macro_rules | `(tactic| walk_at "v") => `(tactic| repeat (first | refine ⟨rfl, ?_⟩ | refine ⟨_, rfl, ?_⟩))
local macro_rules | `(tactic| walk_at "y") => `(tactic| refine ⟨fun _ => ?_, fun h => Bool.noConfusion (show true = false from h)⟩)
local macro_rules | `(tactic| walk_at "z") => `(tactic| repeat (first | refine ⟨rfl, ?_⟩ | refine ⟨_, rfl, ?_⟩ | refine ⟨fun _ => ?_, fun h => Bool.noConfusion (show true = false from h)⟩ | refine ⟨fun h => Bool.noConfusion (show false = true from h), fun _ => ?_⟩ | refine ⟨tyIn rfl, ?_⟩ | refine ⟨tysIn rfl, ?_⟩ | refine ⟨smallL rfl, ?_⟩ | refine ⟨smallE rfl, ?_⟩))
local macro_rules | `(tactic| walk_at "zz") => `(tactic| repeat ((fail_if_success show forL _ _ _ _ _); first | refine ⟨rfl, ?_⟩ | refine ⟨_, rfl, ?_⟩ | refine ⟨fun _ => ?_, fun h => Bool.noConfusion (show true = false from h)⟩ | refine ⟨fun h => Bool.noConfusion (show false = true from h), fun _ => ?_⟩ | refine ⟨tyIn rfl, ?_⟩ | refine ⟨tysIn rfl, ?_⟩ | refine ⟨smallL rfl, ?_⟩ | refine ⟨smallE rfl, ?_⟩))
/-! ### chances of standing -/
section
variable {α β : Type} {f : β → α → β} {b : β} {x : α} {xs : List α}
def scanL (f : β → α → β) : β → List α → List β
  | b, [] => [b]
  | b, x :: xs => b :: scanL f (f b x) xs
end
def addAt (xs : List Rat) (i : Nat) (q : Rat) : List Rat := xs.set i (xs.getD i 0 + q)
theorem len_addAt {xs : List Rat} {i : Nat} {q : Rat} : (addAt xs i q).length = xs.length := List.length_set ..
def pour (c : Rat) (acc : List Rat) (fs : List (Nat × Rat)) : List Rat := fs.foldl (fun a x => addAt a x.1 (c * x.2)) acc
/-- where a state's choice leads -/
def deedAt (l : Land) (row : List Int) (i : Nat) : Option Deed := match l.sts[i]?, row[i]? with
  | some s, some z => if s.ds.isEmpty then none else s.ds[z.toNat]?
  | _, _ => none
def outAt (l : Land) (row : List Int) (i : Nat) : List (Nat × Rat) := match deedAt l row i with
  | some d => d.fs
  | none => [(i, 1)]
def goneN (l : Land) (cs : List Rat) (row : List Int) (n : Nat) : List Rat := (List.range n).foldl (fun acc i => pour (cs.getD i 0) acc (outAt l row i)) (List.replicate l.sts.length 0)
def goneOn (l : Land) (cs : List Rat) (row : List Int) : List Rat := goneN l cs row l.sts.length
def begun (n k : Nat) : List Rat := (List.range n).map fun i => if i = k then 1 else 0
/-- what is told of standing -/
def standsL (l : Land) (k : Nat) (ps : List (List Int)) : List (List Rat) := scanL (goneOn l) (begun l.sts.length k) ps.reverse
/-- one row's worths by chances, put to what was found -/
def onceN (l : Land) (row : List Int) (cs : List Rat) (f : List Rat) (n : Nat) : List Rat := (List.range n).foldl (fun f i => match deedAt l row i with
  | some d => qadd f (qscale d.w (cs.getD i 0))
  | none => f) f
def onceL (l : Land) (f : List Rat) (x : List Int × List Rat) : List Rat := onceN l x.1 x.2 f l.sts.length
def endsN (l : Land) (cs : List Rat) (f : List Rat) (n : Nat) : List Rat := (List.range n).foldl (fun f i => qadd f (qscale (l.ends.getD i []) (cs.getD i 0))) f
def chHad (l : Land) (ps : List (List Int)) (rows : List (List Rat)) : List Rat := endsN l (rows.getLastD []) ((ps.reverse.zip rows).foldl (onceL l) (List.replicate l.k 0)) l.sts.length
/-! ### how long the chances' numbers are -/
def K63 : Nat := 591133442051411133755680800
def FrN (Q B : Nat) (q : Rat) : Prop := ∃ z : Int, q = Rat.divInt z (Q : Nat) ∧ z.natAbs ≤ B
section
variable {Q Q' B B' : Nat} {p q r : Rat}
theorem FrN.le (h : FrN Q B q) (l : B ≤ B') : FrN Q B' q := by obtain ⟨z, a, b⟩ := h; exact ⟨z, a, Nat.le_trans b l⟩
theorem FrN.add (hQ : 0 < Q) (h1 : FrN Q B q) (h2 : FrN Q B' r) : FrN Q (B + B') (q + r) := by
  obtain ⟨y, rfl, b1⟩ := h1
  obtain ⟨z, rfl, b2⟩ := h2
  refine ⟨y + z, ?_, Nat.le_trans (Int.natAbs_add_le _ _) (Nat.add_le_add b1 b2)⟩
  have hq : (Q : Int) ≠ 0 := by omega
  rw [Rat.divInt_add_divInt _ _ hq hq, ← Int.add_mul, Rat.divInt_mul_right hq]
theorem FrN.mul (h1 : FrN Q B q) (h2 : FrN Q' B' r) : FrN (Q * Q') (B * B') (q * r) := by
  obtain ⟨y, rfl, b1⟩ := h1
  obtain ⟨z, rfl, b2⟩ := h2
  refine ⟨y * z, ?_, by rw [Int.natAbs_mul]; exact Nat.mul_le_mul b1 b2⟩
  rw [Rat.divInt_mul_divInt]
  rfl
theorem FrN.wtle (hQ : 0 < Q) (h : FrN Q B q) : wt q ≤ max (bl B) (bl Q) := by
  obtain ⟨z, rfl, b⟩ := h
  have := divInt_wt z (Q : Int) (by omega)
  have e := bl_mono b
  rw [show ((Q : Nat) : Int).natAbs = Q from rfl] at this
  omega
theorem FrN.zero : FrN Q B 0 := ⟨0, by rw [Rat.zero_divInt], Nat.zero_le _⟩
theorem fr63 (h : wt p ≤ 6) : FrN K63 (63 * K63) p := by
  have h1 := Nat.lt_of_lt_of_le (lt_bl p.num.natAbs) (Nat.pow_le_pow_right (by decide) (Nat.le_trans (wt_num p) h))
  have h2 := Nat.lt_of_lt_of_le (lt_bl p.den) (Nat.pow_le_pow_right (by decide) (Nat.le_trans (wt_den p) h))
  have h3 := p.den_pos
  have hd : p.den ∣ K63 := (show ∀ d : Fin 64, 0 < d.val → d.val ∣ K63 by decide +kernel) ⟨p.den, h2⟩ h3
  obtain ⟨m, hm⟩ := hd
  have hm0 : (m : Int) ≠ 0 := by
    intro e
    have : m = 0 := by omega
    rw [this, Nat.mul_zero] at hm
    exact absurd hm (by decide)
  refine ⟨p.num * m, ?_, ?_⟩
  · rw [hm, Int.natCast_mul, Rat.divInt_mul_right hm0, Rat.num_divInt_den]
  · rw [Int.natAbs_mul]
    refine Nat.mul_le_mul (by omega) ?_
    rw [hm]
    exact Nat.le_mul_of_pos_left _ h3
end
def AccOk (n Q B : Nat) (cs : List Rat) : Prop := cs.length = n ∧ ∀ c ∈ cs, FrN Q B c
section
variable {n Q B B' i : Nat} {cs : List Rat} {q : Rat}
theorem AccOk.le (h : AccOk n Q B cs) (l : B ≤ B') : AccOk n Q B' cs := ⟨h.1, fun c hc => (h.2 c hc).le l⟩
theorem AccOk.get (h : AccOk n Q B cs) : FrN Q B (cs.getD i 0) := by
  rw [List.getD_eq_getElem?_getD]
  cases e : cs[i]? with
  | none => exact FrN.zero
  | some x => exact h.2 x (List.mem_of_getElem? e)
theorem AccOk.add (hQ : 0 < Q) (h : AccOk n Q B cs) (hq : FrN Q B' q) : AccOk n Q (B + B') (addAt cs i q) := by
  refine ⟨by rw [len_addAt, h.1], fun c hc => ?_⟩
  unfold addAt at hc
  rcases List.mem_or_eq_of_mem_set hc with hc | rfl
  · exact (h.2 c hc).le (Nat.le_add_right _ _)
  · exact FrN.add hQ h.get hq
theorem AccOk.pour {c : Rat} {B0 : Nat} (hQ : 0 < Q) (hc : FrN Q B0 c) : ∀ {fs : List (Nat × Rat)} {acc : List Rat} {B : Nat}, AccOk n (Q * K63) B acc → (∀ x ∈ fs, wt x.2 ≤ 6) → AccOk n (Q * K63) (B + fs.length * (B0 * (63 * K63))) (pour c acc fs)
  | [], acc, B, h, _ => h.le (Nat.le_add_right _ _)
  | x :: fs, acc, B, h, hw => by
    have := AccOk.pour hQ hc (h.add (i := x.1) (Nat.mul_pos hQ (by decide)) (hc.mul (fr63 (hw x (by simp))))) fun y hy => hw y (List.mem_cons_of_mem _ hy)
    refine AccOk.le this ?_
    have e : (fs.length + 1) * (B0 * (63 * K63)) = fs.length * (B0 * (63 * K63)) + B0 * (63 * K63) := Nat.succ_mul _ _
    rw [List.length_cons]
    omega
end
def ChOk (n j : Nat) (cs : List Rat) : Prop := AccOk n (K63 ^ j) ((2016 * K63) ^ j) cs
theorem FrN.bits {j : Nat} {q : Rat} {B : Nat} (h : FrN (K63 ^ j) B q) (hj : j ≤ 7) (hB : B ≤ (2016 * K63) ^ 7) : wt q ≤ 800 := by
  have := h.wtle (Nat.pow_pos (by decide))
  have e1 : bl B ≤ 800 := bl_le (Nat.lt_of_le_of_lt hB (by decide +kernel))
  have e2 : bl (K63 ^ j) ≤ 800 := bl_le (Nat.lt_of_le_of_lt (Nat.pow_le_pow_right (by decide) hj) (by decide +kernel))
  omega
theorem ChOk.bits {n j : Nat} {cs : List Rat} (h : ChOk n j cs) (hj : j ≤ 7) : allw 800 cs := fun c hc => (h.2 c hc).bits hj (Nat.pow_le_pow_right (by decide) hj)
def dC (cs : List Rat) : D := .lst (cs.map dq)
def dStands (l : Land) (k : Nat) (ps : List (List Int)) : D := .lst ((standsL l k ps).map dC)
@[irreducible] def sp_begun_in : ASp := fun ds R => ∃ (l : Land) (k : Nat), ds = [dLand l, .int k] ∧ l.sts.length ≤ 900 ∧ R (dC (begun l.sts.length k)) 1 []
theorem sp_begun_in.mk {l : Land} {k : Nat} {R : RR} (h1 : l.sts.length ≤ 900) (h : R (dC (begun l.sts.length k)) 1 []) : sp_begun_in [dLand l, .int k] R := by unfold sp_begun_in; exact ⟨l, k, rfl, h1, h⟩
@[irreducible] def sp_gone_on : ASp := fun ds R => ∃ (l : Land) (row : List Int) (cs : List Rat) (j : Nat), ds = [dLand l, .tup (row.map .int), dC cs] ∧ LandOk l ∧ RowOk l row ∧ ChOk l.sts.length j cs ∧ j ≤ 6 ∧ R (dC (goneOn l cs row)) 1 []
theorem sp_gone_on.mk {l : Land} {row : List Int} {cs : List Rat} {R : RR} (j : Nat) (h1 : LandOk l) (h2 : RowOk l row) (h3 : ChOk l.sts.length j cs) (h4 : j ≤ 6) (h : R (dC (goneOn l cs row)) 1 []) : sp_gone_on [dLand l, .tup (row.map .int), dC cs] R := by unfold sp_gone_on; exact ⟨l, row, cs, j, rfl, h1, h2, h3, h4, h⟩
@[irreducible] def sp_stands : ASp := fun ds R => ∃ (l : Land) (ps : List (List Int)) (n k : Nat), ds = [dLand l, .lst (dPlan ps), .int k] ∧ LandOk l ∧ PlanOk l n ps ∧ n ≤ 6 ∧ k < l.sts.length ∧ R (dStands l k ps) 2 []
theorem sp_stands.mk {l : Land} {ps : List (List Int)} {k : Nat} {R : RR} (n : Nat) (h1 : LandOk l) (h2 : PlanOk l n ps) (h3 : n ≤ 6) (h4 : k < l.sts.length) (h : R (dStands l k ps) 2 []) : sp_stands [dLand l, .lst (dPlan ps), .int k] R := by unfold sp_stands; exact ⟨l, ps, n, k, rfl, h1, h2, h3, h4, h⟩
@[irreducible] def sp_l_stands : ASp := fun ds R => ∃ (l : Land) (ps : List (List Int)) (n k : Nat), ds = [dLand l, .lst (dPlan ps), .int k] ∧ LandOk l ∧ PlanOk l n ps ∧ n ≤ 6 ∧ k < l.sts.length ∧ R (dStands l k ps) 1 []
theorem sp_l_stands.mk {l : Land} {ps : List (List Int)} {k : Nat} {R : RR} (n : Nat) (h1 : LandOk l) (h2 : PlanOk l n ps) (h3 : n ≤ 6) (h4 : k < l.sts.length) (h : R (dStands l k ps) 1 []) : sp_l_stands [dLand l, .lst (dPlan ps), .int k] R := by unfold sp_l_stands; exact ⟨l, ps, n, k, rfl, h1, h2, h3, h4, h⟩
@[irreducible] def sp_l_had : ASp := fun ds R => ∃ (l : Land) (ps : List (List Int)) (n k : Nat), ds = [dLand l, .lst (dPlan ps), dStands l k ps] ∧ LandOk l ∧ PlanOk l n ps ∧ n ≤ 6 ∧ k < l.sts.length ∧ R (dw (chHad l ps (standsL l k ps))) 0 []
theorem sp_l_had.mk {l : Land} {ps : List (List Int)} {k : Nat} {R : RR} (n : Nat) (h1 : LandOk l) (h2 : PlanOk l n ps) (h3 : n ≤ 6) (h4 : k < l.sts.length) (h : R (dw (chHad l ps (standsL l k ps))) 0 []) : sp_l_had [dLand l, .lst (dPlan ps), dStands l k ps] R := by unfold sp_l_had; exact ⟨l, ps, n, k, rfl, h1, h2, h3, h4, h⟩
theorem ixN_nat {n i : Nat} (h : i < n) : ixN n (i : Int) = some i := by
  unfold ixN
  rw [if_pos (by omega), if_pos (by omega)]
  rfl
theorem getD_at {cs : List Rat} {i : Nat} (h : i < cs.length) : cs[i]? = some (cs.getD i 0) := by
  rw [List.getD_eq_getElem?_getD, List.getElem?_eq_getElem h]; rfl
theorem enumL_get0 {cs : List Rat} : enumL 0 (cs.map dq) = (List.range cs.length).map fun (i : Nat) => D.tup [.int (i : Nat), dq (cs.getD i 0)] := by
  rw [enumL_map]
  apply List.ext_getElem?
  intro i
  rw [List.getElem?_map, List.getElem?_map, List.getElem?_zipIdx]
  by_cases hi : i < cs.length
  · rw [List.getElem?_range hi, getD_at hi]
    show some (D.tup [.int ((0 + i : Nat) : Int), dq (cs.getD i 0)]) = some (D.tup [.int (i : Nat), dq (cs.getD i 0)])
    rw [Nat.zero_add]
  · rw [List.getElem?_eq_none (by omega), List.getElem?_eq_none (by rw [List.length_range]; omega)]
    rfl
end VL

set_option maxHeartbeats 2000000
namespace VL
open PySem PySem.Spec PyProof.Rows L2
local macro_rules | `(tactic| walk_at "n") => `(tactic| refine ⟨fun h => Bool.noConfusion (show false = true from h), fun _ => ?_⟩)
local macro_rules | `(tactic| walk_at "ty") => `(tactic| refine ⟨_, rfl, by decide, ?_⟩)
local macro_rules | `(tactic| walk_at "tys") => `(tactic| refine ⟨_, rfl, _, rfl, by decide, ?_⟩)
local macro_rules | `(tactic| walk_at "v") => `(tactic| repeat (first | refine ⟨rfl, ?_⟩ | refine ⟨_, rfl, ?_⟩))
local macro_rules | `(tactic| walk_at "y") => `(tactic| refine ⟨fun _ => ?_, fun h => Bool.noConfusion (show true = false from h)⟩)
local macro_rules | `(tactic| walk_at "z") => `(tactic| repeat (first | refine ⟨rfl, ?_⟩ | refine ⟨_, rfl, ?_⟩ | refine ⟨fun _ => ?_, fun h => Bool.noConfusion (show true = false from h)⟩ | refine ⟨fun h => Bool.noConfusion (show false = true from h), fun _ => ?_⟩ | refine ⟨tyIn rfl, ?_⟩ | refine ⟨tysIn rfl, ?_⟩ | refine ⟨smallL rfl, ?_⟩ | refine ⟨smallE rfl, ?_⟩))
local macro_rules | `(tactic| walk_at "zz") => `(tactic| repeat ((fail_if_success show forL _ _ _ _ _); first | refine ⟨rfl, ?_⟩ | refine ⟨_, rfl, ?_⟩ | refine ⟨fun _ => ?_, fun h => Bool.noConfusion (show true = false from h)⟩ | refine ⟨fun h => Bool.noConfusion (show false = true from h), fun _ => ?_⟩ | refine ⟨tyIn rfl, ?_⟩ | refine ⟨tysIn rfl, ?_⟩ | refine ⟨smallL rfl, ?_⟩ | refine ⟨smallE rfl, ?_⟩))
theorem forL_rel {α τ : Type} {rg : RG} {rb : RS} {E : EN} {g : α → D} {st : τ → Ev} {P : τ → List α → Prop}
    (step : ∀ (t : τ) (z : α) (zs : List α) (N : Ev → Prop), P t (z :: zs) → (∀ t', P t' zs → N (st t')) → rg (g z) (st t) fun ρ1 => rb ρ1 { nx := N, rt := E.rt, ct := N, bk := E.nx }) :
    ∀ (xs : List α) (t : τ), P t xs → (∀ t', P t' [] → E.nx (st t')) → forL rg rb (xs.map g) (st t) E
  | [], t, h, fin => fin t h
  | x :: xs, t, h, fin => step t x xs _ h fun t' h2 => forL_rel step xs t' h2 fin
end VL

namespace VL
open PySem PySem.Spec PyProof.Rows L2
/-! ### a place of a list as a target -/
section
variable {X : Cx} {o ix : Expr} {p : Pos} {i : Nat} {ri : RE}
end
end VL

namespace VL
open PySem PySem.Spec PyProof.Rows L2
/-! ### tuples of owned things: made, and one of them taken -/
section
variable {X : Cx} {a b : Expr} {pos : Pos} {i : Nat} {ra rb re : RE} {c : Int}
/-- a thing is frozen ahead of a statement -/
def fzE (i : Nat) (ρ : Ev) : Ev := match ρ[i]? with
  | some (.ow _ d) => ρ.set i (.fz d)
  | _ => ρ
def rFzS (i : Nat) (r : RS) : RS := fun ρ E => r (fzE i ρ) E
theorem vs_fzS {st : Stmt} {r : RS} (h : VS X st r) : VS X st (rFzS i r) := by
  refine PS.weak h ?_
  rintro D σ H ⟨S, F, ρ, E, ⟨fps, h⟩, hr, w⟩
  unfold rFzS fzE at hr
  split at hr
  · rename_i k d q
    obtain ⟨F', fps', s, h', _⟩ := h.freezeS q
    exact ⟨S, F', _, E, ⟨fps', h'⟩, hr, w.from s⟩
  · exact ⟨S, F, ρ, E, ⟨fps, h⟩, hr, w⟩
end
end VL

set_option maxHeartbeats 4000000
namespace VL
open PySem PySem.Spec PyProof.Rows L2
/-! ### xs[3::-1] of fiveL -/
section
variable {X : Cx} {e : Expr} {pos : Pos}
theorem fiveL {α : Type} : ∀ {xs : List α}, xs.length = 5 → ∃ a b c d e, xs = [a, b, c, d, e]
  | [a, b, c, d, e], _ => ⟨a, b, c, d, e, rfl⟩
  | [], h => by cases h
  | [_], h => by cases h
  | [_, _], h => by cases h
  | [_, _, _], h => by cases h
  | [_, _, _, _], h => by cases h
  | _ :: _ :: _ :: _ :: _ :: _ :: _, h => by simp at h
end
end VL

set_option maxHeartbeats 2000000
namespace VL
open PySem PySem.Spec PyProof.Rows L2
/-! ### zip of three rows of any kind -/
section
variable {P : Program} {w : World} {K : Fg} {S1 S2 S3 : Fg → Hp → Addr → List V → Prop} {It1 It2 It3 : Heap → Addr → Addr → Nat → Prop} {Sq1 Sq2 Sq3 : Heap → Addr → Array Value → Prop} {ob1 ob2 ob3 : Addr → Obj}
end
end VL

namespace VL
open PySem PySem.Spec PyProof.Rows L2
/-! ### statements that touch just the slots that are named; lent while they run -/
theorem Kept.refl {ws : List Nat} {σ : L2.St} : Kept ws σ σ := ⟨rfl, fun _ _ => rfl⟩
theorem Kept.tr {ws : List Nat} {σ σ' σ2 : L2.St} (a : Kept ws σ σ') (b : Kept ws σ' σ2) : Kept ws σ σ2 := ⟨b.1.trans a.1, fun m h => (b.2 m h).trans (a.2 m h)⟩
theorem Kept.sub {is ws : List Nat} {σ σ' : L2.St} (a : Kept is σ σ') (h : ∀ m ∈ is, m ∈ ws) : Kept ws σ σ' := ⟨a.1, fun m z => a.2 m fun q => z (h m q)⟩
structure EOkK (K : Fg) (S : Frm) (F : Hp) (σ : L2.St) (ws : List Nat) (E : EN) (D : Ends) : Prop where
  nx : ∀ σ' H', Kept ws σ σ' → NPost K S F E.nx σ' H' → D.nx σ' H'
  rt : ∀ v H', RPost K S F E.rt v H' → D.rt v H'
  bk : ∀ σ' H', Kept ws σ σ' → NPost K S F E.bk σ' H' → D.bk σ' H'
  ct : ∀ σ' H', Kept ws σ σ' → NPost K S F E.ct σ' H' → D.ct σ' H'
section
variable {X : Cx} {ws : List Nat} {st : Stmt} {sts rest : List Stmt} {e a b c : Expr} {es : List Expr} {pos p : Pos} {K : Fg} {S : Frm} {F F' F1 H H' : Hp} {σ σ' : L2.St} {ρ ρ' : Ev} {fps : Nat → List Addr} {tmp : List (Addr × HO)} {r u : RS}
theorem EOkK.from {E : EN} {D : Ends} (s : Same F F1) (h : EOkK K S F σ ws E D) : EOkK K S F1 σ ws E D := ⟨fun _ _ k q => h.nx _ _ k (q.from s), fun _ _ q => h.rt _ _ (q.from s), fun _ _ k q => h.bk _ _ k (q.from s), fun _ _ k q => h.ct _ _ k (q.from s)⟩
end
end VL

namespace VL
open PySem PySem.Spec PyProof.Rows L2
/-! ### a lent statement that leaves one thing without lists -/
mutual
def noLst : D → Bool
  | .non => true
  | .bl _ => true
  | .int _ => true
  | .str _ => true
  | .opq _ => true
  | .scr _ => false
  | .pdc _ _ => false
  | .exc _ _ _ => false
  | .tup ds => noLsts ds
  | .lst _ => false
  | .dct _ _ => false
def noLsts : List D → Bool
  | [] => true
  | d :: ds => noLst d && noLsts ds
end
mutual
theorem Rep.tups {K : Fg} {F F' : Hp} (s : ∀ a vs, F a = some (.tup vs) → F' a = some (.tup vs)) : ∀ (d : D) (v : V), noLst d = true → Rep K F d v → Rep K F' d v
  | .non, _, _, h => h
  | .bl _, _, _, h => h
  | .int _, _, _, h => h
  | .str _, _, _, h => h
  | .opq _, _, _, h => h
  | .scr _, _, n, _ => Bool.noConfusion n
  | .pdc _ _, _, n, _ => Bool.noConfusion n
  | .exc _ _ _, _, n, _ => Bool.noConfusion n
  | .tup ds, _, n, ⟨p, vs, e, h, r⟩ => ⟨p, vs, e, h.elim (fun z => .inl (s _ _ z)) .inr, Reps.tups s ds vs n r⟩
  | .lst _, _, n, _ => Bool.noConfusion n
  | .dct _ _, _, n, _ => Bool.noConfusion n
theorem Reps.tups {K : Fg} {F F' : Hp} (s : ∀ a vs, F a = some (.tup vs) → F' a = some (.tup vs)) : ∀ (ds : List D) (vs : List V), noLsts ds = true → Reps K F ds vs → Reps K F' ds vs
  | [], _, _, h => h
  | d :: ds, _, n, ⟨v, r, e, h, t⟩ => by
    have n' : (noLst d && noLsts ds) = true := n
    rw [Bool.and_eq_true] at n'
    exact ⟨v, r, e, Rep.tups s d v n'.1 h, Reps.tups s ds r n'.2 t⟩
end
section
variable {K : Fg} {S : Frm} {F H : Hp} {σ : L2.St} {ρ : Ev} {fps : Nat → List Addr} {tmp : List (Addr × HO)}
theorem SRf.put {j : Nat} {d : D} {v : V} (h : SRf K S F H σ ρ fps tmp) (e : ρ[j]? = some Sl.no) (hv : (σ[j]?).join = some v) (r : Rep K F d v) : SRf K S F H σ (ρ.set j (.fz d)) fps tmp := by
  have hj : j < ρ.length := (List.getElem?_eq_some_iff.mp e).1
  refine h.change [] (Same.refl F) h.sub (fun a q => .inl q) (fun a o e _ => e) (fun a q => q) (fun a ha => absurd ha List.not_mem_nil) (List.length_set ..) fun i s es => ?_
  by_cases q : i = j
  · subst q
    rw [List.getElem?_set_self hj] at es
    cases es
    exact .inr ⟨h.slot i _ e, v, hv, r⟩
  · rw [List.getElem?_set_ne (fun z => q z.symm)] at es
    exact .inl ⟨es, fun a _ z => absurd z List.not_mem_nil⟩
end
end VL

namespace VL
open PySem PySem.Spec PyProof.Rows L2
/-! ### dicts of ints to True, filled step by step, sorted -/
section
variable {X : Cx} {K : Fg} {S : Frm} {F H : Hp} {σ : L2.St} {ρ : Ev} {fps : Nat → List Addr} {tmp : List (Addr × HO)} {i : Nat}
end
end VL

namespace VL
open PySem PySem.Spec PyProof.Rows L2
/-! ### some slots lent while a statement runs -/
def flatL : D → Bool
  | .lst ds => noLsts ds
  | .dct _ ds => noLsts ds
  | _ => false
def okS : Sl → Prop
  | .no => True
  | .fz d => noLst d = true
  | .ow 1 d => flatL d = true
  | _ => False
def isFz : Sl → Bool
  | .fz _ => true
  | _ => false
def BackS (ws js : List Nat) (i : Nat) (o n r : Sl) : Prop := r = .no ∨ (i ∉ ws ∧ i ∈ js ∧ r = o) ∨ (i ∉ ws ∧ isFz o = true ∧ r = o) ∨ (i ∉ js ∧ r = n ∧ okS n)
def Back (ws js : List Nat) : Nat → Ev → Ev → Ev → Prop
  | i, o :: os, n :: ns, r :: rs => BackS ws js i o n r ∧ Back ws js (i + 1) os ns rs
  | _, [], [], [] => True
  | _, _, _, _ => False
theorem Back.at {ws js : List Nat} : ∀ {k : Nat} {os ns rs : Ev}, Back ws js k os ns rs → os.length = rs.length ∧ ns.length = rs.length ∧ ∀ i r, rs[i]? = some r → ∃ o n, os[i]? = some o ∧ ns[i]? = some n ∧ BackS ws js (k + i) o n r
  | _, [], [], [], _ => ⟨rfl, rfl, fun i r e => by simp at e⟩
  | k, o :: os, n :: ns, r :: rs, h => by
    obtain ⟨h1, h2⟩ := h
    obtain ⟨a, b, c⟩ := Back.at h2
    refine ⟨by simp [a], by simp [b], fun i r' e => ?_⟩
    cases i with
    | zero => cases e; exact ⟨o, n, rfl, rfl, h1⟩
    | succ i =>
      obtain ⟨o', n', e1, e2, e3⟩ := c i r' e
      exact ⟨o', n', e1, e2, by rw [show k + (i + 1) = k + 1 + i by omega]; exact e3⟩
  | _, [], [], _ :: _, h => h.elim
  | _, [], _ :: _, _, h => h.elim
  | _, _ :: _, [], _, h => h.elim
  | _, _ :: _, _ :: _, [], h => h.elim
theorem OwnR.flat {K : Fg} {F F' H : Hp} {d : D} {v : V} {fp : List Addr} (s : ∀ a vs, F a = some (.tup vs) → F' a = some (.tup vs)) (hf : flatL d = true) (h : OwnR K F H 1 d v fp) : OwnR K F' H 1 d v fp := by
  cases d with
  | lst ds =>
    obtain ⟨p, vs, fr, e, h, e2, t⟩ := h
    refine ⟨p, vs, fr, e, h, e2, ?_⟩
    have hn : noLsts ds = true := hf
    clear h e e2 hf
    induction ds generalizing vs fr with
    | nil => exact t
    | cons d ds ih =>
      obtain ⟨v, r, f1, f2, e1, e2, h, t⟩ := t
      have hn' : (noLst d && noLsts ds) = true := hn
      rw [Bool.and_eq_true] at hn'
      exact ⟨v, r, f1, f2, e1, e2, ⟨h.1, Rep.tups s d v hn'.1 h.2⟩, ih _ _ t hn'.2⟩
  | dct ks ds =>
    obtain ⟨p, vs, e, h, e2, t⟩ := h
    exact ⟨p, vs, e, h, e2, Reps.tups s ds vs hf t⟩
  | _ => cases hf
section
variable {K : Fg} {S : Frm} {F H : Hp} {σ : L2.St} {ρ : Ev} {fps : Nat → List Addr}
end
end VL

namespace VL
open PySem PySem.Spec PyProof.Rows L2
/-! ### x = found[k], an inner list by its own name, changed in place while the block runs -/
section
variable {K : Fg} {S : Frm} {F H : Hp} {σ : L2.St} {ρ : Ev} {fps : Nat → List Addr} {i x j : Nat} {p q : Addr} {ds es : List D} {f1 f3 : List Addr} {vs : List V}
theorem OwnL.zero : ∀ {ds : List D} {vs : List V} {fr : List Addr}, OwnL (OwnR K F H 0) ds vs fr → fr = []
  | [], _, _, h => h.2
  | d :: ds, _, _, ⟨v, r, f1, f2, e1, e2, h, t⟩ => by rw [e2, h.1, OwnL.zero t]; rfl
end
end VL

namespace VL
open PySem PySem.Spec PyProof.Rows L2
/-! ### a comprehension whose items stay owned -/
section
variable {K : Fg}
variable {X : Cx} {pos : Pos}
end
end VL

namespace VL
open PySem PySem.Spec PyProof.Rows L2
/-! ### dicts whose keys are pairs of ints: dict(..) of a comprehension, sorted, [..] -/
section
variable {X : Cx}
/-! sorted -/
end

/-! ### on the data's level -/
abbrev PI := Int × Int
def putP {α : Type} (l : List (PI × α)) (k : PI) (d : α) : List (PI × α) := if (l.any fun x => decide (x.1 = k)) = true then l.map (fun x => if x.1 = k then (x.1, d) else x) else l ++ [(k, d)]
abbrev PR (K : Fg) (F : Hp) : List (PI × D) → List (PI × V) → Prop := Paired fun a b => a.1 = b.1 ∧ Rep K F a.2 b.2
theorem PR.repl {K : Fg} {F : Hp} {l : List (PI × D)} {m : List (PI × V)} (h : PR K F l m) (k : PI) {d : D} {v : V} (r : Rep K F d v) : PR K F (l.map fun x => if x.1 = k then (x.1, d) else x) (m.map fun x => if x.1 = k then (x.1, v) else x) := by
  induction h with
  | nil => exact .nil
  | @cons a b l m h t ih =>
    refine .cons ?_ ih
    show (if a.1 = k then (a.1, d) else a).1 = (if b.1 = k then (b.1, v) else b).1 ∧ Rep K F (if a.1 = k then (a.1, d) else a).2 (if b.1 = k then (b.1, v) else b).2
    by_cases c : a.1 = k
    · rw [if_pos c, if_pos (h.1.symm.trans c)]; exact ⟨h.1, r⟩
    · rw [if_neg c, if_neg (fun z => c (h.1.trans z))]; exact h
theorem PR.any {K : Fg} {F : Hp} {l : List (PI × D)} {m : List (PI × V)} (h : PR K F l m) (k : PI) : (l.any fun x => decide (x.1 = k)) = m.any fun x => decide (x.1 = k) := by
  induction h with
  | nil => rfl
  | @cons a b l m h t ih => rw [List.any_cons, List.any_cons, ih, h.1]
theorem PR.put {K : Fg} {F : Hp} {l : List (PI × D)} {m : List (PI × V)} (h : PR K F l m) (k : PI) {d : D} {v : V} (r : Rep K F d v) : PR K F (putP l k d) (putP m k v) := by
  unfold putP
  rw [h.any k]
  split
  · exact h.repl k r
  · exact Paired.snoc h ⟨rfl, r⟩
theorem PR.mono {K : Fg} {F F' : Hp} (s : Same F F') {l : List (PI × D)} {m : List (PI × V)} (h : PR K F l m) : PR K F' l m := Paired.mapP h fun _ _ z => ⟨z.1, Rep.mono s _ _ z.2⟩
theorem PR.reps {K : Fg} {F : Hp} {l : List (PI × D)} {m : List (PI × V)} (h : PR K F l m) : Reps K F (l.map fun x => x.2) (m.map fun x => x.2) := by
  induction h with
  | nil => exact rfl
  | cons h t ih => exact ⟨_, _, rfl, h.2, ih⟩
theorem PR.keys {K : Fg} {F : Hp} {l : List (PI × D)} {m : List (PI × V)} (h : PR K F l m) : l.map (fun x => x.1) = m.map (fun x => x.1) := by
  induction h with
  | nil => rfl
  | cons h t ih => rw [List.map_cons, List.map_cons, ih, h.1]
/-- the items of a list of ((x, y), v) -/
def ItA (K : Fg) (F : Hp) (x : PI × D) (v : V) : Prop := ∃ p b vv, v = .ref p ∧ F p = some (.tup [.ref b, vv]) ∧ F b = some (.tup [.int x.1.1, .int x.1.2]) ∧ Rep K F x.2 vv
theorem ItA.mono {K : Fg} {F F' : Hp} (s : Same F F') {x : PI × D} {v : V} (h : ItA K F x v) : ItA K F' x v := by
  obtain ⟨p, b, vv, e, h1, h2, r⟩ := h
  exact ⟨p, b, vv, e, s _ _ h1, s _ _ h2, Rep.mono s _ _ r⟩
end VL

namespace VL
open PySem PySem.Spec PyProof.Rows L2
/-! ### str of any plain data -/
def strOf : D → Str
  | .str x => x
  | d => d.px.shown
def gStrA : GN := g1 fun d R => (∃ B m, B ≤ 1900 ∧ m ≤ 60 ∧ d.dat B m) ∧ d.sz ≤ 16000000 ∧ R (.str (strOf d)) 0
theorem gStrA.to {d : D} {R : D → Nat → Prop} {B m : Nat} (hd : d.dat B m) (hB : B ≤ 1900) (hm : m ≤ 60) (hz : d.sz ≤ 16000000) (h : R (.str (strOf d)) 0) : gStrA [d] R := ⟨⟨B, m, hB, hm, hd⟩, hz, h⟩
end VL

namespace VL
open PySem PySem.Spec PyProof.Rows L2
/-! ### for x in found: each inner list by its own name, changed in place -/
/-! ### a new list of several lists, all of them owned -/
end VL

namespace VL
open PySem PySem.Spec PyProof.Rows L2
/-! ### an item of a new list, which it alone has -/
end VL

namespace VL
open PySem PySem.Spec PyProof.Rows L2
/-! ### a, b, c = a list of that length -/
end VL

namespace VL
open PySem PySem.Spec PyProof.Rows L2
/-! ### x = found[k], an inner list by its own name, while two statements run -/
section
variable {K : Fg} {S : Frm} {F H : Hp} {σ : L2.St} {ρ : Ev} {i x : Nat}
end
end VL

namespace VL
open PySem PySem.Spec PyProof.Rows L2
/-! ### a, b = t of an owned pair: the block behind runs while both stand lent; then the two lists are owned apart -/
structure EM (K : Fg) (S : Frm) (F : Hp) (σ : L2.St) (ws : List Nat) (E : EN) (T : TS) (D : Ends) : Prop where
  nx : ∀ σ' H', Kept ws σ σ' → NPost K S F E.nx σ' H' → T D σ' H'
  rt : ∀ v H', RPost K S F E.rt v H' → D.rt v H'
  bk : ∀ σ' H', Kept ws σ σ' → NPost K S F E.bk σ' H' → D.bk σ' H'
  ct : ∀ σ' H', Kept ws σ σ' → NPost K S F E.ct σ' H' → D.ct σ' H'
section
variable {X : Cx} {ws : List Nat} {st : Stmt} {sts rest : List Stmt} {K : Fg} {S : Frm} {F F' F1 H H' : Hp} {σ σ' : L2.St} {ρ ρ' : Ev} {fps : Nat → List Addr} {tmp : List (Addr × HO)} {r u : RS} {T : TS}
theorem EM.from {E : EN} {D : Ends} (s : Same F F1) (h : EM K S F σ ws E T D) : EM K S F1 σ ws E T D := ⟨fun _ _ k q => h.nx _ _ k (q.from s), fun _ _ q => h.rt _ _ (q.from s), fun _ _ k q => h.bk _ _ k (q.from s), fun _ _ k q => h.ct _ _ k (q.from s)⟩
/-! ### comprehensions whose items stay owned, at any level -/
variable {pos : Pos}
end
end VL

namespace VL
open PySem PySem.Spec PyProof.Rows L2
/-! ### xs.insert(i, y) of an owned list, i from 0 on -/
def rInsert : V → List V → Hp → VK → Prop := fun x vs H Q => ∃ (l : Addr) (xs : List V) (i : Int) (y : V), x = .ref l ∧ vs = [.int i, y] ∧ H l = some (.lst xs) ∧ xs.length < sizeLine ∧ 0 ≤ i ∧ i < 2 ^ 63 ∧
    Q .non (upd H l (.lst (xs.take i.toNat ++ [y] ++ xs.drop i.toNat)))
def gIns : GL := fun ds es R => match es with
  | [.int i, e] => ds.length < sizeLine ∧ (0 ≤ i ∧ i < 2 ^ 63) ∧ R .non (ds.take i.toNat ++ [e] ++ ds.drop i.toNat)
  | _ => False
theorem lk_ins {K : Fg} : LkF K rInsert gIns := fun F H p vs us ds es R Q' s hp r ra g w => by
  unfold gIns at g
  split at g
  · rename_i i e
    obtain ⟨g0, ⟨g1, g2⟩, g3⟩ := g
    obtain ⟨v1, u1, e1, rv1, v2, u2, e2, rv2, e3⟩ := ra
    cases rv1
    cases e3
    subst e2
    exact ⟨p, vs, i, v2, rfl, e1, hp, by rw [r.length]; exact g0, g1, g2, w _ _ _ _ rep_non (((r.take i.toNat).append (Reps.one rv2)).append (r.drop i.toNat)) g3⟩
  · exact g.elim
theorem ve_insert {X : Cx} {e : Expr} {es : List Expr} {cpos apos : Pos} {i : Nat} {o : Expr} {ra : RF} (ho : PE X o (tVar i)) (ha : VF X (e :: es) ra)
    (hbase : attributeBase o "insert" X.env (eval o X.env) = eval o X.env := by rfl)
    (hfew : ((backTo cpos (starEach (e :: es) X.env)).all (fun x => !x.1) && (backToKw cpos (keywordEach [] X.env)).all (fun x => x.1.isSome)
      && decide ((e :: es).length + ([] : List Keyword).length + (if ([] : List Keyword).isEmpty then 0 else 1) < 30)) = true := by rfl)
    (hline : (apos.endLine == cpos.line) = true := by rfl) (hs : starEach (e :: es) X.env = (false, eval e X.env) :: starEach es X.env := by rfl) (hplain : (backTo cpos (starEach es X.env)).any (·.1) = false := by rfl) :
    VE X (.Call (.Attribute o "insert" apos) (e :: es) [] cpos) (rMetF i gIns ra) := ve_metF PySem.F.slot_list_insert PySem.F.type_list_insert mt_insert lk_ins ho ha hbase hfew hline hs hplain
end VL

namespace VL
open PySem PySem.Spec PyProof.Rows L2
/-! ### a tuple of three owned things -/
section
variable {X : Cx} {a b c : Expr} {pos : Pos} {ra rb rc : RE}
end
/-! ### lent, where owned lists of owned lists are told -/
section
variable {K : Fg} {S : Frm} {F F2 H H1 : Hp} {σ : L2.St} {ρ : Ev} {fps : Nat → List Addr} {tmp : List (Addr × HO)}
end
end VL

namespace VL
open PySem PySem.Spec PyProof.Rows L2
/-! ### a tuple and the empty one -/
section
variable {X : Cx}
end
end VL

namespace VL
open PySem PySem.Spec PyProof.Rows L2
/-! ### the place of the first like item -/
/-- j is the first place of one like e -/
def IsIdx (ds : List D) (e : D) (j : Nat) : Prop := ∃ z, ds[j]? = some z ∧ eqb z e = true ∧ ∀ m z', m < j → ds[m]? = some z' → eqb z' e = false
def rIdx (i : Nat) (ra : RA) : RE := fun ρ Q => (∃ ds0, content ρ i = some (.lst ds0)) ∧ ra ρ fun os ρ1 => ∃ e ds j, opDs ρ1 os = some [e] ∧ content ρ1 i = some (.lst ds) ∧ (D.lst ds).ok 64 = true ∧ e.ok 64 = true ∧ IsIdx ds e j ∧ Q (.int (j : Nat)) 0 ρ1
theorem pys_at : ∀ {ds : List D} {j : Nat} {z : D}, ds[j]? = some z → (D.pys ds)[j]? = some z.py
  | d :: ds, 0, z, h => by cases h; rfl
  | d :: ds, j + 1, z, h => pys_at (ds := ds) (j := j) h
theorem pys_back : ∀ {ds : List D} {j : Nat} {y : PyData}, (D.pys ds)[j]? = some y → ∃ z, ds[j]? = some z ∧ z.py = y
  | d :: ds, 0, y, h => by cases h; exact ⟨d, rfl, rfl⟩
  | d :: ds, j + 1, y, h => pys_back (ds := ds) (j := j) h
theorem ve_idx {X : Cx} {i : Nat} {o e : Expr} {es : List Expr} {apos cpos : Pos} {ra : RA} (hu : X.A.units + 65 < cLine) (ho : PE X o (tVar i)) (ha : VA X (e :: es) ra)
    (hbase : attributeBase o "index" X.env (eval o X.env) = eval o X.env := by rfl)
    (hfew : ((backTo cpos (starEach (e :: es) X.env)).all (fun x => !x.1) && (backToKw cpos (keywordEach [] X.env)).all (fun x => x.1.isSome)
      && decide ((e :: es).length + ([] : List Keyword).length + (if ([] : List Keyword).isEmpty then 0 else 1) < 30)) = true := by rfl)
    (hline : (apos.endLine == cpos.line) = true := by rfl) (hs : starEach (e :: es) X.env = (false, eval e X.env) :: starEach es X.env := by rfl) (hplain : (backTo cpos (starEach es X.env)).any (·.1) = false := by rfl) :
    VE X (.Call (.Attribute o "index" apos) (e :: es) [] cpos) (rIdx i ra) := by
  refine PE.weak (pe_bm PySem.F.plainAttrs_list PySem.F.slot_list_index PySem.F.type_list_index (mt_indexD hu) ho ha hbase hfew hline hs hplain) ?_
  rintro σ H Q' ⟨S, F, ρ, tmp, Q, ⟨fps, h⟩, ⟨⟨ds0, q0⟩, hr⟩, w⟩
  obtain ⟨v, G, e3, _, s3, r3, _⟩ := h.read q0
  obtain ⟨p, us, rfl, hp, _⟩ := r3
  refine ⟨_, e3, .inl ⟨rfl, us, SqL.of (s3 _ _ hp)⟩, tVA.mk ⟨fps, h⟩ hr fun vs H1 ⟨F1, ρ1, os, s1, h1, v1, e, ds, j, e1, e2, o1, o2, ⟨z, hz, hzj, hno⟩, q1⟩ => ?_⟩
  obtain ⟨u, rfl, hu2⟩ := Shals.one (h1.ops v1 e1)
  have hl : Shal X.K F1 H1 (.lst ds) (.ref p) := h1.op (o := .s i) (v := .ref p) e3 e2
  have s1' : Same F1 H1 := by obtain ⟨_, h1⟩ := h1; exact h1.sub
  refine ⟨p, u, e.py, D.pys ds, j, z.py, rfl, rfl, Shal.dp s1' o1 hl, Shal.dp s1' o2 hu2, shaped_ok o1, shaped_ok o2, pys_at hz, hzj, fun m z' hm hz' => ?_, ?_⟩
  · obtain ⟨y, hy, rfl⟩ := pys_back hz'
    exact hno m y hm hy
  · exact w _ _ ((Res.post h1 (Res.old (d := .int (j : Nat)) (v := .int (j : Nat)) rfl) q1).from s1)
/-! ### a comparison that runs while all owned lists stand read-only, as a test -/
end VL

namespace VL
open PySem PySem.Spec PyProof.Rows L2
/-! ### the set of a list of ints, told sorted -/
section
variable {P : Program} {w : World} {A : Around} {R : Result → Shared → Prop} {I : Addr} {fp wr : List Addr} {G : Array GenState → Array GenState → Prop} {n : Nat} {Pv : Nat → Value → Prop} {St : Nat → Shared → Prop}
end

section
variable {P : Program} {w : World} {A : Around} {E : Value → Shared → Prop} {s : Shared}
end
end VL

namespace VL
open PySem PySem.Spec PyProof.Rows L2
theorem hu65 {A : Around} {k : Nat} (hr : Room k A) : A.units + 65 < cLine := by have := hr.un; omega
section
end
end VL

namespace VL
open PySem PySem.Spec PyProof.Rows L2
/-! ### x in xs, of told data -/
theorem pys_any (a : D) : ∀ ds : List D, (D.pys ds).any (fun z => PyData.eqv z a.py) = ds.any fun z => eqb z a
  | [] => rfl
  | d :: ds => by
    show (PyData.eqv d.py a.py || (D.pys ds).any _) = (eqb d a || ds.any _)
    rw [pys_any a ds]; rfl
end VL

namespace VL
open PySem PySem.Spec PyProof.Rows L2
/-! ### x not in xs, of told data -/
def gNotInD : G2 := fun a b R => match b with
  | .lst ds => a.ok 64 = true ∧ (D.lst ds).ok 64 = true ∧ R (.bl (!ds.any fun z => eqb z a)) 0
  | _ => False
theorem lk_notInD {K : Fg} : Lk2 K (rNotInD K) gNotInD := fun F H a b x y R Q' s h1 h2 g w => by
  cases b with
  | lst ds =>
    obtain ⟨o1, o2, r⟩ := g
    refine ⟨a.py, D.pys ds, h1.dp s o1, Shal.dp s o2 h2, shaped_ok o1, shaped_ok o2, ?_⟩
    rw [pys_any]
    exact w _ _ _ _ .bl r
  | _ => exact g.elim
end VL

set_option maxHeartbeats 2000000
set_option pp.maxSteps 5000
namespace VL
open PySem PySem.Spec PyProof.Rows L2
local macro_rules | `(tactic| walk_at "n") => `(tactic| refine ⟨fun h => Bool.noConfusion (show false = true from h), fun _ => ?_⟩)
local macro_rules | `(tactic| walk_at "ty") => `(tactic| refine ⟨_, rfl, by decide, ?_⟩)
local macro_rules | `(tactic| walk_at "tys") => `(tactic| refine ⟨_, rfl, _, rfl, by decide, ?_⟩)
local macro_rules | `(tactic| walk_at "v") => `(tactic| repeat (first | refine ⟨rfl, ?_⟩ | refine ⟨_, rfl, ?_⟩))
local macro_rules | `(tactic| walk_at "y") => `(tactic| refine ⟨fun _ => ?_, fun h => Bool.noConfusion (show true = false from h)⟩)
local macro_rules | `(tactic| walk_at "z") => `(tactic| repeat (first | refine ⟨rfl, ?_⟩ | refine ⟨_, rfl, ?_⟩ | refine ⟨fun _ => ?_, fun h => Bool.noConfusion (show true = false from h)⟩ | refine ⟨fun h => Bool.noConfusion (show false = true from h), fun _ => ?_⟩ | refine ⟨tyIn rfl, ?_⟩ | refine ⟨tysIn rfl, ?_⟩ | refine ⟨smallL rfl, ?_⟩ | refine ⟨smallE rfl, ?_⟩))
local macro_rules | `(tactic| walk_at "zz") => `(tactic| repeat ((fail_if_success show forL _ _ _ _ _); first | refine ⟨rfl, ?_⟩ | refine ⟨_, rfl, ?_⟩ | refine ⟨fun _ => ?_, fun h => Bool.noConfusion (show true = false from h)⟩ | refine ⟨fun h => Bool.noConfusion (show false = true from h), fun _ => ?_⟩ | refine ⟨tyIn rfl, ?_⟩ | refine ⟨tysIn rfl, ?_⟩ | refine ⟨smallL rfl, ?_⟩ | refine ⟨smallE rfl, ?_⟩))
/-! ### rows of parts, swept -/
def en (M : List (List Rat)) (i j : Nat) : Rat := (M.getD i []).getD j 0
def pivR (M : List (List Rat)) (p : Nat) : List Rat := (M.getD p []).map fun q => q / en M p p
def swR (v : List Rat) (p : Nat) (r : List Rat) : List Rat := List.zipWith (fun a b => a - r.getD p 0 * b) r v
def sweepM (M : List (List Rat)) (p : Nat) : List (List Rat) := (M.zipIdx 0).map fun x => if x.2 = p then pivR M p else swR (pivR M p) p x.1
def swAll (M : List (List Rat)) : Nat → List (List Rat)
  | 0 => M
  | p + 1 => sweepM (swAll M p) p
def MOk (n m W : Nat) (M : List (List Rat)) : Prop := M.length = n ∧ ∀ r ∈ M, r.length = m ∧ allw W r
def Wg (W : Nat) : Nat → Nat
  | 0 => W
  | p + 1 => 4 * Wg W p + 1
theorem Wg_le (W : Nat) : ∀ p, Wg W p + 1 ≤ 4 ^ p * (W + 1)
  | 0 => by show W + 1 ≤ 1 * (W + 1); omega
  | p + 1 => by
    have := Wg_le W p
    show 4 * Wg W p + 1 + 1 ≤ 4 ^ p * 4 * (W + 1)
    have e : 4 ^ p * 4 * (W + 1) = 4 * (4 ^ p * (W + 1)) := by rw [Nat.mul_comm (4 ^ p) 4, Nat.mul_assoc]
    omega
theorem MOk.row {n m W : Nat} {M : List (List Rat)} (h : MOk n m W M) {i : Nat} (hi : i < n) : ∃ r, M[i]? = some r ∧ M.getD i [] = r ∧ r.length = m ∧ allw W r := by
  have hi' : i < M.length := by rw [h.1]; exact hi
  have e := List.getElem?_eq_getElem hi'
  refine ⟨M[i], e, by rw [List.getD_eq_getElem?_getD, e]; rfl, ?_⟩
  exact h.2 _ (List.getElem_mem hi')
theorem gd_at {r : List Rat} {j : Nat} (h : j < r.length) : r[j]? = some (r.getD j 0) := by
  rw [List.getD_eq_getElem?_getD, List.getElem?_eq_getElem h]; rfl
theorem allw_at {r : List Rat} {W j : Nat} (h : allw W r) (hj : j < r.length) : wt (r.getD j 0) ≤ W := h _ (List.mem_of_getElem? (gd_at hj))
theorem MOk.wt {n m W : Nat} {M : List (List Rat)} (h : MOk n m W M) {i j : Nat} (hi : i < n) (hj : j < m) : VL.wt (en M i j) ≤ W := by
  obtain ⟨r, _, e, l, w⟩ := h.row hi
  unfold en
  rw [e]
  exact allw_at w (by omega)
theorem pivR_len {n m W : Nat} {M : List (List Rat)} (h : MOk n m W M) {p : Nat} (hp : p < n) : (pivR M p).length = m := by
  obtain ⟨r, _, e, l, w⟩ := h.row hp
  unfold pivR
  rw [e, List.length_map, l]
theorem pivR_w {n m W : Nat} {M : List (List Rat)} (h : MOk n m W M) {p : Nat} (hp : p < n) (hm : p < m) (hd : en M p p ≠ 0) : allw (W + W) (pivR M p) := by
  obtain ⟨r, _, e, l, w⟩ := h.row hp
  unfold pivR
  rw [e]
  intro q hq
  obtain ⟨x, hx, rfl⟩ := List.mem_map.mp hq
  have a := wt_div x _ hd
  have b := w x hx
  have c := h.wt hp hm
  omega
theorem swR_len {v r : List Rat} {p : Nat} (h : r.length = v.length) : (swR v p r).length = r.length := by
  unfold swR
  rw [List.length_zipWith]; omega
theorem swR_w {v r : List Rat} {p W : Nat} (hp : p < r.length) (hr : allw W r) (hv : allw (W + W) v) : allw (4 * W + 1) (swR v p r) := by
  intro q hq
  unfold swR at hq
  obtain ⟨i, hi⟩ := List.mem_iff_getElem?.mp hq
  rw [List.getElem?_zipWith] at hi
  cases ea : r[i]? with
  | none => rw [ea] at hi; cases hi
  | some a =>
    cases eb : v[i]? with
    | none => rw [ea, eb] at hi; cases hi
    | some b =>
      rw [ea, eb] at hi
      cases hi
      have h1 := hr a (List.mem_of_getElem? ea)
      have h2 := hv b (List.mem_of_getElem? eb)
      have h3 := allw_at hr hp
      have h4 := wt_mul (r.getD p 0) b
      have h5 := wt_sub a (r.getD p 0 * b)
      omega
theorem sweep_at {n m W : Nat} {M : List (List Rat)} (h : MOk n m W M) {p i : Nat} {r : List Rat} (e : M[i]? = some r) : (sweepM M p)[i]? = some (if i = p then pivR M p else swR (pivR M p) p r) := by
  unfold sweepM
  rw [List.getElem?_map, List.getElem?_zipIdx, e]
  show some (if 0 + i = p then _ else _) = _
  rw [Nat.zero_add]
theorem sweep_ok {n m W : Nat} {M : List (List Rat)} (h : MOk n m W M) {p : Nat} (hp : p < n) (hm : p < m) (hd : en M p p ≠ 0) : MOk n m (4 * W + 1) (sweepM M p) := by
  refine ⟨by unfold sweepM; rw [List.length_map, List.length_zipIdx, h.1], fun r hr => ?_⟩
  unfold sweepM at hr
  obtain ⟨⟨x, k⟩, hx, rfl⟩ := List.mem_map.mp hr
  have hx' : x ∈ M := by
    obtain ⟨i, hi⟩ := List.mem_iff_getElem?.mp hx
    rw [List.getElem?_zipIdx] at hi
    cases e : M[i]? with
    | none => rw [e] at hi; cases hi
    | some y => rw [e] at hi; cases hi; exact List.mem_of_getElem? e
  obtain ⟨l, w⟩ := h.2 x hx'
  have pl := pivR_len h hp
  have pw := pivR_w h hp hm hd
  show (if k = p then pivR M p else swR (pivR M p) p x).length = m ∧ allw _ (if k = p then pivR M p else swR (pivR M p) p x)
  by_cases hk : k = p
  · rw [if_pos hk]
    exact ⟨pl, allw_le pw (by omega)⟩
  · rw [if_neg hk]
    exact ⟨by rw [swR_len (by omega), l], swR_w (by omega) w pw⟩
theorem en_sweep {n m W : Nat} {M : List (List Rat)} (h : MOk n m W M) {p i j : Nat} (hp : p < n) (hi : i < n) (hj : j < m) :
    en (sweepM M p) i j = if i = p then en M p j / en M p p else en M i j - en M i p * (en M p j / en M p p) := by
  obtain ⟨r, er, e, l, w⟩ := h.row hi
  obtain ⟨s, es, e2, l2, w2⟩ := h.row hp
  have a := sweep_at h (p := p) er
  have pv : (pivR M p).getD j 0 = en M p j / en M p p := by
    unfold pivR
    rw [e2, List.getD_eq_getElem?_getD, List.getElem?_map, gd_at (show j < s.length by omega)]
    unfold en
    rw [e2]; rfl
  have b : (sweepM M p).getD i [] = if i = p then pivR M p else swR (pivR M p) p r := by rw [List.getD_eq_getElem?_getD, a]; rfl
  unfold en at b ⊢
  rw [b]
  by_cases hk : i = p
  · rw [if_pos hk, if_pos hk, pv]; rfl
  · rw [if_neg hk, if_neg hk]
    unfold swR
    have pl := pivR_len h hp
    rw [List.getD_eq_getElem?_getD, List.getElem?_zipWith, gd_at (show j < r.length by omega), gd_at (show j < (pivR M p).length by omega), pv]
    unfold en
    rw [e, e2]; rfl
/-! ### sums -/
def sumN : Nat → (Nat → Rat) → Rat
  | 0, _ => 0
  | n + 1, f => sumN n f + f n
theorem sumN_congr {f g : Nat → Rat} : ∀ {n : Nat}, (∀ j, j < n → f j = g j) → sumN n f = sumN n g
  | 0, _ => rfl
  | n + 1, h => by show sumN n f + f n = sumN n g + g n; rw [sumN_congr fun j hj => h j (by omega), h n (by omega)]
theorem sumN_mul (f : Nat → Rat) (c : Rat) : ∀ n, sumN n (fun j => c * f j) = c * sumN n f
  | 0 => by show (0 : Rat) = c * 0; grind
  | n + 1 => by show sumN n _ + c * f n = c * (sumN n f + f n); rw [sumN_mul f c n]; grind
theorem sumN_zero : ∀ n, sumN n (fun _ => 0) = 0
  | 0 => rfl
  | n + 1 => by show sumN n _ + 0 = 0; rw [sumN_zero n]; grind
theorem sumN_sub (f g : Nat → Rat) (c : Rat) : ∀ n, sumN n (fun j => f j - c * g j) = sumN n f - c * sumN n g
  | 0 => by show (0 : Rat) = 0 - c * 0; grind
  | n + 1 => by show sumN n _ + (f n - c * g n) = (sumN n f + f n) - c * (sumN n g + g n); rw [sumN_sub f g c n]; grind
theorem sumN_le {f : Nat → Rat} {p : Nat} : ∀ {n : Nat}, (∀ j, j < n → j ≠ p → f j ≤ 0) → (p < n → sumN n f ≤ f p) ∧ (n ≤ p → sumN n f ≤ 0)
  | 0, _ => ⟨fun h => absurd h (by omega), fun _ => Rat.le_refl⟩
  | n + 1, h => by
    obtain ⟨a, b⟩ := sumN_le (n := n) (p := p) fun j hj => h j (by omega)
    refine ⟨fun hp => ?_, fun hp => ?_⟩
    · show sumN n f + f n ≤ f p
      by_cases e : n = p
      · have := b (by omega)
        rw [e] at this ⊢
        grind
      · have := a (by omega)
        have := h n (by omega) e
        grind
    · show sumN n f + f n ≤ 0
      have := b (by omega)
      have := h n (by omega) (by omega)
      grind
theorem sumN_delta {f : Nat → Rat} {p : Nat} : ∀ {n : Nat}, (p < n → sumN n (fun j => (if j = p then 1 else 0) * f j) = f p) ∧ (n ≤ p → sumN n (fun j => (if j = p then 1 else 0) * f j) = 0)
  | 0 => ⟨fun h => absurd h (by omega), fun _ => rfl⟩
  | n + 1 => by
    obtain ⟨a, b⟩ := sumN_delta (f := f) (n := n) (p := p)
    refine ⟨fun hp => ?_, fun hp => ?_⟩
    · show sumN n _ + (if n = p then 1 else 0) * f n = f p
      by_cases e : n = p
      · rw [b (by omega), if_pos e, e]; grind
      · rw [a (by omega), if_neg e]; grind
    · show sumN n _ + (if n = p then 1 else 0) * f n = 0
      rw [b (by omega), if_neg (by omega)]; grind
/-! ### what sweeping keeps -/
def Sat (n : Nat) (M : List (List Rat)) (c : Nat) (x : Nat → Rat) : Prop := ∀ i, i < n → sumN n (fun j => en M i j * x j) = en M i (n + c)
theorem sat_back {n m W : Nat} {M : List (List Rat)} (h : MOk n m W M) {p c : Nat} {x : Nat → Rat} (hp : p < n) (hc : n + c < m) (hd : en M p p ≠ 0) (hs : Sat n (sweepM M p) c x) : Sat n M c x := by
  have rowp : sumN n (fun j => en M p j / en M p p * x j) = en M p (n + c) / en M p p := by
    have := hs p hp
    rw [en_sweep h hp hp hc, if_pos rfl] at this
    rw [← this]
    refine sumN_congr fun j hj => ?_
    rw [en_sweep h hp hp (by omega), if_pos rfl]
  intro i hi
  by_cases e : i = p
  · subst e
    have e1 : sumN n (fun j => en M i j * x j) = en M i i * sumN n (fun j => en M i j / en M i i * x j) := by
      rw [← sumN_mul]
      refine sumN_congr fun j hj => ?_
      generalize en M i j = a at *
      generalize en M i i = d at *
      generalize x j = y at *
      grind
    rw [e1, rowp]
    generalize en M i (n + c) = a at *
    generalize en M i i = d at *
    grind
  · have e1 := hs i hi
    rw [en_sweep h hp hi hc, if_neg e] at e1
    have e2 : sumN n (fun j => en (sweepM M p) i j * x j) = sumN n (fun j => en M i j * x j) - en M i p * sumN n (fun j => en M p j / en M p p * x j) := by
      rw [← sumN_sub]
      refine sumN_congr fun j hj => ?_
      rw [en_sweep h hp hi (by omega), if_neg e]
      generalize en M p j / en M p p = a
      generalize en M i j = b
      generalize en M i p = d
      generalize x j = y
      grind
    rw [e2, rowp] at e1
    grind
/-- the columns that are done -/
def IdC (n p : Nat) (M : List (List Rat)) : Prop := ∀ i j, i < n → j < p → en M i j = if i = j then 1 else 0
theorem idc_next {n m W : Nat} {M : List (List Rat)} (h : MOk n m W M) {p : Nat} (hp : p < n) (hm : n ≤ m) (hd : en M p p ≠ 0) (hi : IdC n p M) : IdC n (p + 1) (sweepM M p) := by
  intro i j hi' hj
  rw [en_sweep h hp hi' (by omega)]
  by_cases ej : j = p
  · subst ej
    have dd : en M j j / en M j j = 1 := by generalize en M j j = d at *; grind
    by_cases e : i = j
    · rw [if_pos e, if_pos e, dd]
    · rw [if_neg e, if_neg e, dd]; generalize en M i j = a; grind
  · rw [hi p j hp (by omega), if_neg (show ¬ p = j by omega)]
    have dd : (0 : Rat) / en M p p = 0 := by generalize en M p p = d at *; grind
    rw [dd]
    by_cases e : i = p
    · rw [if_pos e, if_neg (by omega)]
    · rw [if_neg e, hi i j hi' (by omega)]
      generalize en M i p = a
      grind
theorem sat_end {n : Nat} {M : List (List Rat)} (hi : IdC n n M) (c : Nat) : Sat n M c (fun j => en M j (n + c)) := by
  intro i hin
  rw [← (sumN_delta (f := fun j => en M j (n + c)) (n := n) (p := i)).1 hin]
  refine sumN_congr fun j hj => ?_
  rw [hi i j hin hj]
  by_cases e : i = j
  · rw [if_pos e, if_pos e.symm]
  · rw [if_neg e, if_neg (fun z => e z.symm)]
/-- that no pivot is nought -/
def Piv (n : Nat) (M : List (List Rat)) : Prop := ∀ p, p < n → en (swAll M p) p p ≠ 0
theorem all_ok {n m W : Nat} {M : List (List Rat)} (h : MOk n m W M) (hm : n ≤ m) (hv : Piv n M) : ∀ p, p ≤ n → MOk n m (Wg W p) (swAll M p) ∧ IdC n p (swAll M p)
  | 0, _ => ⟨h, fun i j _ hj => absurd hj (by omega)⟩
  | p + 1, hp => by
    obtain ⟨a, b⟩ := all_ok h hm hv p (by omega)
    have d := hv p (by omega)
    exact ⟨sweep_ok a (by omega) (by omega) d, idc_next a (by omega) hm d b⟩
theorem all_back {n m W : Nat} {M : List (List Rat)} (h : MOk n m W M) (hm : n ≤ m) (hv : Piv n M) {c : Nat} (hc : n + c < m) {x : Nat → Rat} : ∀ p, p ≤ n → Sat n (swAll M p) c x → Sat n M c x
  | 0, _, s => s
  | p + 1, hp, s => all_back h hm hv hc p (by omega) (sat_back (all_ok h hm hv p (by omega)).1 (by omega) hc (hv p (by omega)) s)
theorem solved_sat {n m W : Nat} {M : List (List Rat)} (h : MOk n m W M) (hm : n ≤ m) (hv : Piv n M) {c : Nat} (hc : n + c < m) : Sat n M c (fun j => en (swAll M n) j (n + c)) :=
  all_back h hm hv hc n (Nat.le_refl _) (sat_end (all_ok h hm hv n (Nat.le_refl _)).2 c)
/-! ### rows that are heavy on the line -/
def Dom (n : Nat) (M : List (List Rat)) : Prop := (∀ i j, i < n → j < n → i ≠ j → en M i j ≤ 0) ∧ ∀ i, i < n → 0 < sumN n (en M i)
theorem Dom.pos {n : Nat} {M : List (List Rat)} (h : Dom n M) {p : Nat} (hp : p < n) : 0 < en M p p := by
  have a := h.2 p hp
  have b := (sumN_le (f := en M p) (p := p) (n := n) fun j hj e => h.1 p j hp hj (fun z => e z.symm)).1 hp
  grind
theorem np_np {a b d : Rat} (ha : a ≤ 0) (hb : b ≤ 0) (hd : 0 < d) : 0 ≤ a * (b / d) := by
  have h1 : 0 ≤ (-b) / d := by
    rw [Rat.div_def]
    exact Rat.mul_nonneg (by grind) (by have := Rat.inv_pos.mpr hd; grind)
  have h2 := Rat.mul_nonneg (a := -a) (b := -b / d) (by grind) h1
  grind
theorem dom_next {n m W : Nat} {M : List (List Rat)} (h : MOk n m W M) {p : Nat} (hp : p < n) (hm : n ≤ m) (hd : Dom n M) : Dom n (sweepM M p) := by
  have d0 := hd.pos hp
  have dn : en M p p ≠ 0 := by grind
  have sp : sumN n (fun j => en M p j / en M p p) = sumN n (en M p) / en M p p := by
    have e : (fun j => en M p j / en M p p) = fun j => (en M p p)⁻¹ * en M p j := by funext j; rw [Rat.div_def, Rat.mul_comm]
    rw [e, sumN_mul, Rat.div_def, Rat.mul_comm]
  have s0 : 0 < sumN n (en M p) / en M p p := by
    rw [Rat.div_def]
    exact Rat.mul_pos (hd.2 p hp) (Rat.inv_pos.mpr d0)
  refine ⟨fun i j hi hj e => ?_, fun i hi => ?_⟩
  · rw [en_sweep h hp hi (by omega)]
    by_cases ei : i = p
    · rw [if_pos ei]
      have b := hd.1 p j hp hj (by omega)
      have := np_np (a := -1) (by decide) b d0
      grind
    · rw [if_neg ei]
      by_cases ej : j = p
      · subst ej
        have dd : en M j j / en M j j = 1 := by generalize en M j j = d at *; grind
        rw [dd]
        generalize en M i j = a
        grind
      · have a := hd.1 i j hi hj e
        have b := np_np (hd.1 i p hi hp ei) (hd.1 p j hp hj (by omega)) d0
        grind
  · by_cases ei : i = p
    · have e : sumN n (en (sweepM M p) i) = sumN n (en M p) / en M p p := by
        rw [← sp]
        refine sumN_congr fun j hj => ?_
        rw [en_sweep h hp hi (by omega), if_pos ei]
      rw [e]; exact s0
    · have e : sumN n (en (sweepM M p) i) = sumN n (en M i) - en M i p * (sumN n (en M p) / en M p p) := by
        rw [← sp, ← sumN_sub]
        refine sumN_congr fun j hj => ?_
        rw [en_sweep h hp hi (by omega), if_neg ei]
      rw [e]
      have a := hd.2 i hi
      have b := hd.1 i p hi hp ei
      have c := Rat.mul_nonneg (a := -(en M i p)) (b := sumN n (en M p) / en M p p) (by grind) (by grind)
      grind
theorem dom_piv {n m W : Nat} {M : List (List Rat)} (h : MOk n m W M) (hm : n ≤ m) (hd : Dom n M) : Piv n M := by
  have key : ∀ p, p ≤ n → MOk n m (Wg W p) (swAll M p) ∧ Dom n (swAll M p) := by
    intro p
    induction p with
    | zero => exact fun _ => ⟨h, hd⟩
    | succ p ih =>
      intro hp
      obtain ⟨a, b⟩ := ih (by omega)
      have d0 := b.pos (show p < n by omega)
      have dn : en (swAll M p) p p ≠ 0 := by grind
      exact ⟨sweep_ok a (by omega) (by omega) dn, dom_next a (by omega) hm b⟩
  intro p hp
  have := (key p (by omega)).2.pos hp
  grind

/-! ### habits -/
def dM (M : List (List Rat)) : D := .lst (M.map dC)
def k_NOUGHT_solving : D := dq 0
def k_NOUGHT_endless : D := dq 0
def deedOf (s : St) (z : Int) : Option Deed := if z < 0 then none else s.ds[z.toNat]?
def fsOf (s : St) (z : Int) : List (Nat × Rat) := match deedOf s z with | some d => d.fs | none => []
def wOf (s : St) (z : Int) : List Rat := match deedOf s z with | some d => d.w | none => s.e
def leadSt (n : Nat) (q : Rat) (s : St) (z : Int) : List Rat := (fsOf s z).foldl (fun row x => row.set x.1 (q * x.2)) (List.replicate n 0)
def leadsM (l : Land) (q : Rat) (hs : List Int) : List (List Rat) := (l.sts.zip hs).map fun x => leadSt l.sts.length q x.1 x.2
def unitR (k : Nat) (lead : List Rat) : List Rat := (lead.zipIdx 0).map fun x => (if x.2 = k then 1 else 0) - x.1
def habM (l : Land) (q : Rat) (hs : List Int) : List (List Rat) := ((l.sts.zip hs).zipIdx 0).map fun x => unitR x.2 (leadSt l.sts.length q x.1.1 x.1.2) ++ wOf x.1.1 x.1.2
def habS (l : Land) (q : Rat) (hs : List Int) : List (List Rat) := (swAll (habM l q hs) l.sts.length).map (List.drop l.sts.length)
def hsum (g : Nat × Rat → Rat) : List (Nat × Rat) → Rat
  | [] => 0
  | x :: xs => g x + hsum g xs
theorem hsum_qsum : ∀ (fs : List (Nat × Rat)) (a : Rat), qsum (fs.map (·.2)) a = a + hsum (·.2) fs
  | [], a => by show a = a + 0; grind
  | x :: xs, a => by
    show qsum (xs.map (·.2)) (a + x.2) = a + (x.2 + hsum (·.2) xs)
    rw [hsum_qsum xs]; grind
theorem hsum_mul (c : Rat) (g : Nat × Rat → Rat) : ∀ fs, hsum (fun x => c * g x) fs = c * hsum g fs
  | [] => by show (0 : Rat) = c * 0; grind
  | x :: xs => by show c * g x + hsum _ xs = c * (g x + hsum g xs); rw [hsum_mul c g xs]; grind
theorem hsum_congr {g h : Nat × Rat → Rat} : ∀ {fs : List (Nat × Rat)}, (∀ x ∈ fs, g x = h x) → hsum g fs = hsum h fs
  | [], _ => rfl
  | x :: xs, e => by show g x + hsum g xs = h x + hsum h xs; rw [e x (by simp), hsum_congr fun y hy => e y (List.mem_cons_of_mem _ hy)]
theorem getD_set (row : List Rat) (a j : Nat) (v : Rat) (h : a < row.length) : (row.set a v).getD j 0 = if j = a then v else row.getD j 0 := by
  rw [List.getD_eq_getElem?_getD, List.getD_eq_getElem?_getD]
  by_cases e : j = a
  · subst e; rw [List.getElem?_set_self h, if_pos rfl]; rfl
  · rw [List.getElem?_set_ne (fun z => e z.symm), if_neg e]
theorem dot_set (row : List Rat) (a : Nat) (v : Rat) (x : Nat → Rat) (h : a < row.length) : ∀ n, (a < n → sumN n (fun j => (row.set a v).getD j 0 * x j) = sumN n (fun j => row.getD j 0 * x j) + (v - row.getD a 0) * x a) ∧ (n ≤ a → sumN n (fun j => (row.set a v).getD j 0 * x j) = sumN n (fun j => row.getD j 0 * x j))
  | 0 => ⟨fun z => absurd z (by omega), fun _ => rfl⟩
  | n + 1 => by
    obtain ⟨p, q⟩ := dot_set row a v x h n
    refine ⟨fun z => ?_, fun z => ?_⟩
    · show sumN n _ + (row.set a v).getD n 0 * x n = sumN n _ + row.getD n 0 * x n + _
      rw [getD_set _ _ _ _ h]
      by_cases e : n = a
      · subst e; rw [if_pos rfl, q (Nat.le_refl _)]; grind
      · rw [if_neg e, p (by omega)]; grind
    · show sumN n _ + (row.set a v).getD n 0 * x n = sumN n _ + row.getD n 0 * x n
      rw [getD_set _ _ _ _ h, if_neg (by omega), q (by omega)]
theorem lead_dot {n : Nat} {q : Rat} {x : Nat → Rat} : ∀ (fs : List (Nat × Rat)) (row : List Rat), row.length = n → (∀ f ∈ fs, f.1 < n) → (∀ f ∈ fs, row.getD f.1 0 = 0) → fs.Pairwise (fun x y => x.1 < y.1) →
    sumN n (fun j => (fs.foldl (fun row x => row.set x.1 (q * x.2)) row).getD j 0 * x j) = sumN n (fun j => row.getD j 0 * x j) + hsum (fun f => q * f.2 * x f.1) fs
  | [], row, _, _, _, _ => by show _ = _ + (0 : Rat); grind
  | f :: fs, row, hl, h1, h2, h3 => by
    rw [List.pairwise_cons] at h3
    have hf := h1 f (by simp)
    rw [List.foldl_cons, lead_dot fs _ (by rw [List.length_set]; exact hl) (fun g hg => h1 g (List.mem_cons_of_mem _ hg)) (fun g hg => ?_) h3.2, (dot_set row f.1 (q * f.2) x (by omega) n).1 hf, h2 f (by simp)]
    · show _ = _ + (q * f.2 * x f.1 + hsum _ fs)
      grind
    · have := h3.1 g hg
      rw [getD_set _ _ _ _ (by omega), if_neg (by omega)]
      exact h2 g (List.mem_cons_of_mem _ hg)
theorem lead_all {n : Nat} {q : Rat} {P : Rat → Prop} : ∀ (fs : List (Nat × Rat)) (row : List Rat), row.length = n → (∀ r ∈ row, P r) → (∀ f ∈ fs, P (q * f.2)) → (fs.foldl (fun row x => row.set x.1 (q * x.2)) row).length = n ∧ ∀ r ∈ fs.foldl (fun row x => row.set x.1 (q * x.2)) row, P r
  | [], row, hl, h1, _ => ⟨hl, h1⟩
  | f :: fs, row, hl, h1, h2 => by
    rw [List.foldl_cons]
    refine lead_all fs _ (by rw [List.length_set]; exact hl) (fun r hr => ?_) (fun g hg => h2 g (List.mem_cons_of_mem _ hg))
    rcases List.mem_or_eq_of_mem_set hr with z | z
    · exact h1 r z
    · rw [z]; exact h2 f (by simp)
theorem deedOf_ok {l : Land} {s : St} {z : Int} {i : Nat} {d : Deed} (hl : LandOk l) (e : l.sts[i]? = some s) (h : deedOf s z = some d) : DeedOk l.k l.sts.length d := by
  unfold deedOf at h
  by_cases c : z < 0
  · rw [if_pos c] at h; cases h
  · rw [if_neg c] at h
    exact (hl.sts s (List.mem_of_getElem? e)).ds d (List.mem_of_getElem? h)
theorem fsOf_ok {l : Land} {s : St} {z : Int} {i : Nat} (hl : LandOk l) (e : l.sts[i]? = some s) : fsOf s z = [] ∨ FolOk l.sts.length (fsOf s z) := by
  unfold fsOf
  cases h : deedOf s z with
  | none => exact .inl rfl
  | some d => exact .inr (deedOf_ok hl e h).fol
theorem wOf_ok {l : Land} {s : St} {z : Int} {i : Nat} (hl : LandOk l) (e : l.sts[i]? = some s) : (wOf s z).length = l.k ∧ allw 90 (wOf s z) := by
  unfold wOf
  cases h : deedOf s z with
  | none =>
    have := hl.sts s (List.mem_of_getElem? e)
    exact ⟨this.len, allw_le this.wts (by decide)⟩
  | some d => exact ⟨(deedOf_ok hl e h).len, (deedOf_ok hl e h).wts⟩
structure Shr (q : Rat) : Prop where
  pos : 0 < q
  lt : q < 1
  wt : wt q ≤ 10
theorem lead_ok {l : Land} {q : Rat} {s : St} {z : Int} {i : Nat} (hl : LandOk l) (hq : Shr q) (e : l.sts[i]? = some s) : (leadSt l.sts.length q s z).length = l.sts.length ∧ ∀ r ∈ leadSt l.sts.length q s z, 0 ≤ r ∧ wt r ≤ 16 := by
  refine lead_all (P := fun r => 0 ≤ r ∧ wt r ≤ 16) (fsOf s z) _ List.length_replicate (fun r hr => ?_) (fun f hf => ?_)
  · rw [(List.mem_replicate.mp hr).2]; exact ⟨by decide, by decide⟩
  · rcases fsOf_ok (z := z) hl e with h | h
    · rw [h] at hf; cases hf
    · have a := h.pos f hf
      have b := h.wt f hf
      have c := wt_mul q f.2
      have d := hq.wt
      have p := hq.pos
      exact ⟨Rat.mul_nonneg (by grind) (by grind), by omega⟩
theorem lead_sum {l : Land} {q : Rat} {s : St} {z : Int} {i : Nat} (x : Nat → Rat) (hl : LandOk l) (e : l.sts[i]? = some s) : sumN l.sts.length (fun j => (leadSt l.sts.length q s z).getD j 0 * x j) = hsum (fun f => q * f.2 * x f.1) (fsOf s z) := by
  have z0 : ∀ j, (List.replicate l.sts.length (0 : Rat)).getD j 0 = 0 := fun j => by
    rw [List.getD_eq_getElem?_getD, List.getElem?_replicate]
    split <;> rfl
  unfold leadSt
  rcases fsOf_ok (z := z) hl e with h | h
  · rw [h]
    show sumN _ (fun j => (List.replicate l.sts.length (0 : Rat)).getD j 0 * x j) = 0
    rw [sumN_congr (g := fun _ => 0) fun j _ => by rw [z0]; grind, sumN_zero]
  · rw [lead_dot (fsOf s z) _ List.length_replicate h.lt (fun f _ => z0 _) h.rise, sumN_congr (g := fun _ => 0) fun j _ => by rw [z0]; grind, sumN_zero]
    grind
theorem unit_at {k j : Nat} {lead : List Rat} (h : j < lead.length) : (unitR k lead)[j]? = some ((if j = k then 1 else 0) - lead.getD j 0) := by
  unfold unitR
  rw [List.getElem?_map, List.getElem?_zipIdx, gd_at h]
  show some ((if 0 + j = k then (1 : Rat) else 0) - lead.getD j 0) = _
  rw [Nat.zero_add]
theorem unit_len (k : Nat) (lead : List Rat) : (unitR k lead).length = lead.length := by unfold unitR; rw [List.length_map, List.length_zipIdx]
theorem habM_row {l : Land} {q : Rat} {hs : List Int} {i : Nat} {s : St} {z : Int} (e : l.sts[i]? = some s) (e2 : hs[i]? = some z) : (habM l q hs)[i]? = some (unitR i (leadSt l.sts.length q s z) ++ wOf s z) := by
  unfold habM
  rw [List.getElem?_map, List.getElem?_zipIdx, zip_at e e2]
  show some (unitR (0 + i) _ ++ _) = _
  rw [Nat.zero_add]
theorem habM_len {l : Land} {q : Rat} {hs : List Int} (h : hs.length = l.sts.length) : (habM l q hs).length = l.sts.length := by
  unfold habM
  rw [List.length_map, List.length_zipIdx, List.length_zip]; omega
theorem row_at {l : Land} {hs : List Int} {i : Nat} (h : hs.length = l.sts.length) (hi : i < l.sts.length) : ∃ s z, l.sts[i]? = some s ∧ hs[i]? = some z := ⟨_, _, List.getElem?_eq_getElem hi, List.getElem?_eq_getElem (show i < hs.length by omega)⟩
theorem habM_en {l : Land} {q : Rat} {hs : List Int} {i j : Nat} {s : St} {z : Int} (hl : LandOk l) (hq : Shr q) (e : l.sts[i]? = some s) (e2 : hs[i]? = some z) (hj : j < l.sts.length) : en (habM l q hs) i j = (if j = i then 1 else 0) - (leadSt l.sts.length q s z).getD j 0 := by
  have a := (lead_ok (z := z) hl hq e).1
  unfold en
  rw [List.getD_eq_getElem?_getD (l := habM l q hs), habM_row e e2]
  show (unitR i _ ++ wOf s z).getD j 0 = _
  rw [List.getD_eq_getElem?_getD, List.getElem?_append_left (by rw [unit_len, a]; exact hj), unit_at (by rw [a]; exact hj)]
  rfl
theorem habM_rhs {l : Land} {q : Rat} {hs : List Int} {i c : Nat} {s : St} {z : Int} (hl : LandOk l) (hq : Shr q) (e : l.sts[i]? = some s) (e2 : hs[i]? = some z) : en (habM l q hs) i (l.sts.length + c) = (wOf s z).getD c 0 := by
  have a := (lead_ok (z := z) hl hq e).1
  unfold en
  rw [List.getD_eq_getElem?_getD (l := habM l q hs), habM_row e e2]
  show (unitR i _ ++ wOf s z).getD _ 0 = _
  rw [List.getD_eq_getElem?_getD, List.getElem?_append_right (by rw [unit_len, a]; omega), unit_len, a, List.getD_eq_getElem?_getD]
  congr 2
  omega
theorem habM_ok {l : Land} {q : Rat} {hs : List Int} (hl : LandOk l) (hq : Shr q) (h : hs.length = l.sts.length) : MOk l.sts.length (l.sts.length + l.k) 90 (habM l q hs) := by
  refine ⟨habM_len h, fun r hr => ?_⟩
  obtain ⟨i, hi⟩ := List.mem_iff_getElem?.mp hr
  have hi' : i < l.sts.length := by rw [← habM_len (q := q) h]; exact (List.getElem?_eq_some_iff.mp hi).1
  obtain ⟨s, z, e, e2⟩ := row_at h hi'
  rw [habM_row e e2] at hi
  cases hi
  obtain ⟨a, b⟩ := lead_ok (z := z) hl hq e
  obtain ⟨c, d⟩ := wOf_ok (z := z) hl e
  refine ⟨by rw [List.length_append, unit_len, a, c], fun x hx => ?_⟩
  rcases List.mem_append.mp hx with hx | hx
  · obtain ⟨j, hj⟩ := List.mem_iff_getElem?.mp hx
    have hj' : j < (leadSt l.sts.length q s z).length := by rw [← unit_len i]; exact (List.getElem?_eq_some_iff.mp hj).1
    rw [unit_at hj'] at hj
    cases hj
    have w := (b _ (List.mem_of_getElem? (gd_at hj'))).2
    have w1 : wt (if j = i then (1 : Rat) else 0) ≤ 1 := by split <;> decide
    have := wt_sub (if j = i then (1 : Rat) else 0) ((leadSt l.sts.length q s z).getD j 0)
    omega
  · exact d x hx
theorem habM_dom {l : Land} {q : Rat} {hs : List Int} (hl : LandOk l) (hq : Shr q) (h : hs.length = l.sts.length) : Dom l.sts.length (habM l q hs) := by
  refine ⟨fun i j hi hj ne => ?_, fun i hi => ?_⟩
  · obtain ⟨s, z, e, e2⟩ := row_at h hi
    obtain ⟨a, b⟩ := lead_ok (z := z) hl hq e
    rw [habM_en hl hq e e2 hj, if_neg (fun z => ne z.symm)]
    have := (b _ (List.mem_of_getElem? (gd_at (show j < _ by rw [a]; exact hj)))).1
    grind
  · obtain ⟨s, z, e, e2⟩ := row_at h hi
    have c : sumN l.sts.length (en (habM l q hs) i) = sumN l.sts.length (fun j => (if j = i then 1 else 0) * (fun _ => (1 : Rat)) j) - 1 * sumN l.sts.length (fun j => (leadSt l.sts.length q s z).getD j 0 * (fun _ => (1 : Rat)) j) := by
      rw [← sumN_sub]
      refine sumN_congr fun j hj => ?_
      rw [habM_en hl hq e e2 hj]
      generalize (leadSt l.sts.length q s z).getD j 0 = a
      show _ = (if j = i then 1 else 0) * 1 - 1 * (a * 1)
      grind
    rw [c, sumN_delta.1 hi, lead_sum _ hl e]
    have p := hq.lt
    have p2 := hq.pos
    rcases fsOf_ok (z := z) hl e with g | g
    · rw [g]
      show 0 < (1 : Rat) - 1 * 0
      grind
    · have k1 : hsum (fun f => q * f.2 * 1) (fsOf s z) = q * hsum (·.2) (fsOf s z) := by
        rw [← hsum_mul]
        exact hsum_congr fun x _ => by grind
      have k2 := hsum_qsum (fsOf s z) 0
      rw [g.sum] at k2
      show 0 < (1 : Rat) - 1 * hsum (fun f => q * f.2 * 1) (fsOf s z)
      rw [k1]
      have k3 : hsum (·.2) (fsOf s z) = 1 := by grind
      rw [k3]
      grind
def hadQ (q : Rat) (fs : List (Nat × Rat)) (w : List Rat) (later : List (List Rat)) : List Rat := fs.foldl (fun f x => qadd f (qscale (later.getD x.1 []) (q * x.2))) w
theorem qadd_getD {k : Nat} {ps qs : List Rat} (h1 : ps.length = k) (h2 : qs.length = k) : (qadd ps qs).length = k ∧ ∀ c, c < k → (qadd ps qs).getD c 0 = ps.getD c 0 + qs.getD c 0 := by
  rw [qadd_zip]
  refine ⟨by rw [List.length_map, List.length_zip]; omega, fun c hc => ?_⟩
  rw [List.getD_eq_getElem?_getD, List.getElem?_map, zip_at (gd_at (show c < ps.length by omega)) (gd_at (show c < qs.length by omega))]
  rfl
theorem qscale_getD {ps : List Rat} {a : Rat} {c : Nat} (h : c < ps.length) : (qscale ps a).getD c 0 = ps.getD c 0 * a := by
  unfold qscale
  rw [List.getD_eq_getElem?_getD, List.getElem?_map, gd_at h]
  rfl
theorem hadQ_at {n k : Nat} {q : Rat} {later : List (List Rat)} (hl : ∀ j, j < n → (later.getD j []).length = k) : ∀ (fs : List (Nat × Rat)) (w : List Rat), w.length = k → (∀ f ∈ fs, f.1 < n) →
    (hadQ q fs w later).length = k ∧ ∀ c, c < k → (hadQ q fs w later).getD c 0 = w.getD c 0 + hsum (fun f => q * f.2 * (later.getD f.1 []).getD c 0) fs
  | [], w, h, _ => ⟨h, fun c _ => by show w.getD c 0 = w.getD c 0 + 0; grind⟩
  | f :: fs, w, h, hf => by
    have h1 := hl f.1 (hf f (by simp))
    have h2 : (qscale (later.getD f.1 []) (q * f.2)).length = k := by unfold qscale; rw [List.length_map, h1]
    obtain ⟨a, b⟩ := qadd_getD h h2
    obtain ⟨c, d⟩ := hadQ_at hl fs _ a fun g hg => hf g (List.mem_cons_of_mem _ hg)
    refine ⟨c, fun j hj => ?_⟩
    show (hadQ q fs _ later).getD j 0 = w.getD j 0 + (q * f.2 * (later.getD f.1 []).getD j 0 + hsum _ fs)
    rw [d j hj, b j hj, qscale_getD (by omega)]
    grind
theorem habS_ok {l : Land} {q : Rat} {hs : List Int} (hl : LandOk l) (hq : Shr q) (h : hs.length = l.sts.length) : WOk l.sts.length l.k 6000000 (habS l q hs) := by
  have a := habM_ok hl hq h
  have b := (all_ok a (by omega) (dom_piv a (by omega) (habM_dom hl hq h)) l.sts.length (Nat.le_refl _)).1
  have n8 := hl.n8
  refine ⟨by unfold habS; rw [List.length_map]; exact b.1, fun w hw => ?_⟩
  unfold habS at hw
  obtain ⟨r, hr, rfl⟩ := List.mem_map.mp hw
  obtain ⟨c, d⟩ := b.2 r hr
  refine ⟨by rw [List.length_drop, c]; omega, fun x hx => ?_⟩
  have e := d x (List.mem_of_mem_drop hx)
  have e1 := Wg_le 90 l.sts.length
  have e2 := Nat.pow_le_pow_right (show 1 ≤ 4 by decide) n8
  have e3 : 4 ^ l.sts.length * (90 + 1) ≤ 65536 * 91 := Nat.mul_le_mul_right 91 e2
  omega
theorem habS_at {l : Land} {q : Rat} {hs : List Int} (hl : LandOk l) (hq : Shr q) (h : hs.length = l.sts.length) {i c : Nat} (hi : i < l.sts.length) : ((habS l q hs).getD i []).getD c 0 = en (swAll (habM l q hs) l.sts.length) i (l.sts.length + c) := by
  have a := habM_ok hl hq h
  have b := (all_ok a (by omega) (dom_piv a (by omega) (habM_dom hl hq h)) l.sts.length (Nat.le_refl _)).1
  obtain ⟨r, e1, e2, e3, _⟩ := b.row hi
  unfold habS en
  rw [e2, List.getD_eq_getElem?_getD (l := List.map _ _), List.getElem?_map, e1]
  show (r.drop l.sts.length).getD c 0 = _
  rw [List.getD_eq_getElem?_getD, List.getElem?_drop, List.getD_eq_getElem?_getD]
/-- what comes out state by state -/
theorem habS_due {l : Land} {q : Rat} {hs : List Int} (hl : LandOk l) (hq : Shr q) (h : hs.length = l.sts.length) {i : Nat} {s : St} {z : Int} (e : l.sts[i]? = some s) (e2 : hs[i]? = some z) : (habS l q hs).getD i [] = hadQ q (fsOf s z) (wOf s z) (habS l q hs) := by
  have hi : i < l.sts.length := (List.getElem?_eq_some_iff.mp e).1
  have w := habS_ok hl hq h
  have wl : ∀ j, j < l.sts.length → ((habS l q hs).getD j []).length = l.k := fun j hj => by
    have hj' : j < (habS l q hs).length := by rw [w.1]; exact hj
    rw [List.getD_eq_getElem?_getD, List.getElem?_eq_getElem hj']
    exact (w.2 _ (List.getElem_mem hj')).1
  have hf : ∀ f ∈ fsOf s z, f.1 < l.sts.length := fun f hf => by
    rcases fsOf_ok (z := z) hl e with g | g
    · rw [g] at hf; cases hf
    · exact g.lt f hf
  obtain ⟨a, b⟩ := hadQ_at (q := q) wl (fsOf s z) (wOf s z) (wOf_ok hl e).1 hf
  refine List.ext_getElem? fun c => ?_
  by_cases hc : c < l.k
  · rw [gd_at (by rw [wl i hi]; exact hc), gd_at (by rw [a]; exact hc), b c hc]
    have m := habM_ok hl hq h
    have sat := solved_sat m (by omega) (dom_piv m (by omega) (habM_dom hl hq h)) (c := c) (by omega) i hi
    rw [habM_rhs hl hq e e2] at sat
    have k1 : sumN l.sts.length (fun j => en (habM l q hs) i j * en (swAll (habM l q hs) l.sts.length) j (l.sts.length + c)) = sumN l.sts.length (fun j => (if j = i then 1 else 0) * (fun j => ((habS l q hs).getD j []).getD c 0) j) - 1 * sumN l.sts.length (fun j => (leadSt l.sts.length q s z).getD j 0 * (fun j => ((habS l q hs).getD j []).getD c 0) j) := by
      rw [← sumN_sub]
      refine sumN_congr fun j hj => ?_
      rw [habM_en hl hq e e2 hj, ← habS_at hl hq h hj]
      generalize (leadSt l.sts.length q s z).getD j 0 = a
      dsimp only
      generalize ((habS l q hs).getD j []).getD c 0 = x
      grind
    rw [k1, sumN_delta.1 hi, lead_sum _ hl e] at sat
    rw [← sat]
    generalize hsum _ (fsOf s z) = y
    generalize ((habS l q hs).getD i []).getD c 0 = x
    grind
  · rw [List.getElem?_eq_none (by rw [wl i hi]; omega), List.getElem?_eq_none (by rw [a]; omega)]

@[irreducible] def sp_swept : ASp := fun ds R => ∃ (M : List (List Rat)) (n m W p : Nat), ds = [dM M, .int p] ∧ MOk n m W M ∧ n ≤ 8 ∧ n ≤ m ∧ m ≤ 100 ∧ p < n ∧ en M p p ≠ 0 ∧ W ≤ 10000000 ∧ R (dM (sweepM M p)) 1 []
theorem sp_swept.mk {M : List (List Rat)} {p : Nat} {R : RR} (n m W : Nat) (h : MOk n m W M) (h1 : n ≤ 8) (h2 : n ≤ m) (h3 : m ≤ 100) (h4 : p < n) (h5 : en M p p ≠ 0) (h6 : W ≤ 10000000) (r : R (dM (sweepM M p)) 1 []) : sp_swept [dM M, .int p] R := by unfold sp_swept; exact ⟨M, n, m, W, p, rfl, h, h1, h2, h3, h4, h5, h6, r⟩
def solvedM (n : Nat) (M : List (List Rat)) : List (List Rat) := (swAll M n).map (List.drop n)
@[irreducible] def sp_solved : ASp := fun ds R => ∃ (M : List (List Rat)) (n m W : Nat), ds = [dM M] ∧ MOk n m W M ∧ n ≤ 8 ∧ n ≤ m ∧ m ≤ 100 ∧ Piv n M ∧ W ≤ 140 ∧ R (dM (solvedM n M)) 1 []
theorem sp_solved.mk {M : List (List Rat)} {R : RR} (n m W : Nat) (h : MOk n m W M) (h1 : n ≤ 8) (h2 : n ≤ m) (h3 : m ≤ 100) (h4 : Piv n M) (h5 : W ≤ 140) (r : R (dM (solvedM n M)) 1 []) : sp_solved [dM M] R := by unfold sp_solved; exact ⟨M, n, m, W, rfl, h, h1, h2, h3, h4, h5, r⟩

def rb_swept_6 : RS := (rIf (rTb (rOp2 gEq (roV 6) (roV 1))) (rDrop (rMetF 5 gApp (rfCons (rVar 4) rfNil))) (rIf (rTb (rOp2 gEq (roE (rOp2 gIx (roV 7) (roV 1))) (roE (rC k_NOUGHT_solving)))) (rDrop (rMetF 5 gApp (rfCons (rVar 7) rfNil))) (rDrop (rMetF 5 gApp (rfCons (rLc [8, 9] (riZipA (rfCons (rVar 7) (rfCons (rVar 4) rfNil))) (rgTup 2 (rgCons (rgName 8) (rgCons (rgName 9) rgNil))) rYes (rCall [false, false] sp_minus (rgAv (rVar 8) (rgAv (rCall [false, false] sp_times (rgAv (rOp2 gIx (roV 7) (roV 1)) (rgAv (rVar 9) rgA0))) rgA0)))) rfNil)))))
@[irreducible] def rd_swept_6 : RS := rb_swept_6
theorem rx_swept_6 : rb_swept_6 = rd_swept_6 := by unfold rd_swept_6; rfl
def rb_swept_12 : RS := (rRet (rMove 5))
@[irreducible] def rd_swept_12 : RS := rb_swept_12
theorem rx_swept_12 : rb_swept_12 = rd_swept_12 := by unfold rd_swept_12; rfl
def rb_swept_5 : RS := (rSeq (rFzS 4 (rFor (rIW [6, 7] (riEnumA (rfCons (rVar 3) rfNil))) (rgTup 2 (rgCons (rgName 6) (rgCons (rgName 7) rgNil))) (rBW [6, 7] rd_swept_6)))
  rd_swept_12)
@[irreducible] def rd_swept_5 : RS := rb_swept_5
theorem rx_swept_5 : rb_swept_5 = rd_swept_5 := by unfold rd_swept_5; rfl
def rb_swept_4 : RS := (rSeq (rSet 5 (rLst1 rfNil))
  rd_swept_5)
@[irreducible] def rd_swept_4 : RS := rb_swept_4
theorem rx_swept_4 : rb_swept_4 = rd_swept_4 := by unfold rd_swept_4; rfl
def rb_swept_3 : RS := (rSeq (rSet 4 (rLc [8] (riSeq (rOp2 gIx (roV 3) (roV 1))) (rgName 8) rYes (rCall [false, false] sp_over (rgAv (rVar 8) (rgAv (rOp2 gIx (roE (rOp2 gIx (roV 3) (roV 1))) (roV 1)) rgA0)))))
  rd_swept_4)
@[irreducible] def rd_swept_3 : RS := rb_swept_3
theorem rx_swept_3 : rb_swept_3 = rd_swept_3 := by unfold rd_swept_3; rfl
def rb_swept_2 : RS := (rSeq (rSet 3 (rOp2 gAddA (roE (rOp2 gAddA (roE (rOp2 gAddA (roE (rSlA2 (roV 0) rpNone (rpSome (rVar 1)))) (roE (rLst1 (rfCons (rOp2 gIx (roV 0) (roV 2)) rfNil))))) (roE (rSlA2 (roV 0) (rpSome (rVar 1)) (rpSome (rVar 2)))))) (roE (rSlA2 (roV 0) (rpSome (rOp2 gAddA (roV 2) (roE (rC (.int 1))))) rpNone))))
  rd_swept_3)
@[irreducible] def rd_swept_2 : RS := rb_swept_2
theorem rx_swept_2 : rb_swept_2 = rd_swept_2 := by unfold rd_swept_2; rfl
def rd_swept : RS := (rSeq (rSet 2 (rOp2 gIx (roE (rLc [6] (riRng2 (rfCons (rVar 1) (rfCons (rCB gLen (raCons (roV 0) raNil)) rfNil))) (rgName 6) (rTb (rOp2 gNe (roE (rOp2 gIx (roE (rOp2 gIx (roV 0) (roV 6))) (roV 1))) (roE (rC k_NOUGHT_solving)))) (rVar 6))) (roE (rC (.int 0)))))
  rd_swept_2)
def rb_solved_2 : RS := (rSet 0 (rCall [false, false] sp_swept (rgAv (rVar 0) (rgAv (rVar 1) rgA0))))
@[irreducible] def rd_solved_2 : RS := rb_solved_2
theorem rx_solved_2 : rb_solved_2 = rd_solved_2 := by unfold rd_solved_2; rfl
def rb_solved_3 : RS := (rRet (rLc [2] (riSeq (rVar 0)) (rgName 2) rYes (rSlA2 (roV 2) (rpSome (rCB gLen (raCons (roV 0) raNil))) rpNone)))
@[irreducible] def rd_solved_3 : RS := rb_solved_3
theorem rx_solved_3 : rb_solved_3 = rd_solved_3 := by unfold rd_solved_3; rfl
def rd_solved : RS := (rSeq (rFor (rIW [1] (riRng1 (rfCons (rCB gLen (raCons (roV 0) raNil)) rfNil))) (rgName 1) (rBW [1] rd_solved_2))
  rd_solved_3)

theorem atI_dM {M : List (List Rat)} {i : Nat} {r : List Rat} (h : M[i]? = some r) : atI (M.map dC) (i : Int) = some (dC r) := atI_mp h
theorem atI_dC {r : List Rat} {j : Nat} (h : j < r.length) : atI (r.map dq) (j : Int) = some (dq (r.getD j 0)) := atI_mp (gd_at h)
theorem cut_none {xs : List D} {p : Nat} : cutL xs (some (p : Int)) (some (p : Int)) = [] := by
  unfold cutL
  rw [HT.sIx_nat, HT.sIx_nat, Nat.sub_self, List.take_zero]
theorem pieces {α : Type} {xs : List α} {p : Nat} {x : α} (h : xs[p]? = some x) : xs.take p ++ [x] ++ [] ++ xs.drop (p + 1) = xs := by
  obtain ⟨hp, e⟩ := List.getElem?_eq_some_iff.mp h
  rw [List.append_nil, List.append_assoc, ← e]
  show xs.take p ++ (xs[p] :: xs.drop (p + 1)) = xs
  rw [← List.drop_eq_getElem_cons hp, List.take_append_drop]
theorem small8 {k : Nat} (h : k ≤ 900) : k ≤ sizeLine := Nat.le_of_lt (smallL (Nat.ble_eq_true_of_le (by omega)))
theorem zw {α β γ : Type} (f : α → β → γ) : ∀ (xs : List α) (ys : List β), List.zipWith f xs ys = (xs.zip ys).map fun x => f x.1 x.2
  | [], _ => rfl
  | _ :: _, [] => rfl
  | x :: xs, y :: ys => by show f x y :: List.zipWith f xs ys = _; rw [zw f xs ys]; rfl
theorem rp_swept (ds : List D) (R : RR) (hl : ds.length = 2) (h : sp_swept ds R) : rd_swept (rho0 [false, false] 0 ds ++ List.replicate (10 - 2) .no) (endsOf [false, false] R) := by
  unfold sp_swept at h
  obtain ⟨M, n, m, W, p, rfl, hM, hn, hnm, hm, hp, hd, hW, h⟩ := h
  obtain ⟨rp, ep, ep2, lp, wp⟩ := hM.row hp
  have dpp : en M p p = rp.getD p 0 := by unfold en; rw [ep2]
  have hlM : (M.map dC).length = n := by rw [List.length_map, hM.1]
  unfold dM at *
  walk_at "z"
  refine ⟨by omega, ?_⟩
  walk_at "z"
  have ei : (List.range (((M.map dC).length : Int) - (p : Int)).toNat).map (fun (k : Nat) => D.int ((p : Int) + (k : Nat))) = (p :: (List.range (n - p - 1)).map fun k => p + k + 1).map fun (z : Nat) => D.int z := by
    have e1 : (((M.map dC).length : Int) - (p : Int)).toNat = (n - p - 1) + 1 := by omega
    rw [e1, List.range_succ_eq_map, List.map_cons, List.map_cons, List.map_map, List.map_map]
    refine congr (congrArg _ ?_) (List.map_congr_left fun k _ => ?_)
    · show D.int ((p : Int) + ((0 : Nat) : Int)) = _
      rw [show (p : Int) + ((0 : Nat) : Int) = p by omega]
    · show D.int ((p : Int) + ((k + 1 : Nat) : Int)) = D.int ((p + k + 1 : Nat) : Int)
      rw [show (p : Int) + ((k + 1 : Nat) : Int) = ((p + k + 1 : Nat) : Int) by omega]
  rw [ei]
  refine lcL_inv (I := fun items acc ρ => ∃ zs : List Nat, items = zs.map (fun (z : Nat) => D.int z) ∧ (∀ z ∈ zs, z < n) ∧ wipeE [6] ρ = [.fz (.lst (M.map dC)), .fz (.int p), .no, .no, .no, .no, .no, .no, .no, .no] ∧ acc.length + zs.length ≤ 8 ∧ ((acc = [] ∧ ∃ zs', zs = p :: zs') ∨ ∃ r, acc = .int p :: r)) (fun acc ρ hI => ?_) (fun d ds acc ρ P N hP hN hI => ?_) _ _ _ ⟨_, rfl, fun z hz => ?_, rfl, ?_, .inl ⟨rfl, _, rfl⟩⟩
  · obtain ⟨zs, e1, e2, e3, e4, e5⟩ := hI
    have z0 : zs = [] := List.map_eq_nil_iff.mp e1.symm
    obtain ⟨r, rfl⟩ : ∃ r, acc = .int p :: r := by
      rcases e5 with ⟨_, zs', q⟩ | q
      · rw [z0] at q; cases q
      · exact q
    rw [restE_wipe, e3]
    walk_at "z"
    refine ⟨_, atI_nat (j := 0) rfl, ?_⟩
    walk_at "z"
    refine lit10 rfl ?_
    rw [← rx_swept_2]
    walk_at "z"
    refine ⟨_, atI_dM ep, ?_⟩
    walk_at "z"
    have hp' : p ≤ (M.map dC).length := by omega
    rw [cutL_take]
    refine ⟨small8 (by rw [List.length_take]; show _ + 1 ≤ 900; omega), ?_⟩
    walk_at "z"
    rw [cut_none]
    refine ⟨small8 (by rw [List.length_append, List.length_take]; show _ + 1 + 0 ≤ 900; omega), ?_⟩
    walk_at "z"
    rw [show ((p : Int) + 1) = ((p + 1 : Nat) : Int) by omega, cut_drop (by omega)]
    refine ⟨small8 (by rw [List.length_append, List.length_append, List.length_take, List.length_drop]; show _ + 1 + 0 + _ ≤ 900; omega), ?_⟩
    rw [pieces (show (M.map dC)[p]? = some (dC rp) by rw [List.getElem?_map, ep]; rfl)]
    walk_at "z"
    refine lit10 rfl ?_
    show rd_swept_3 [.fz (.lst (M.map dC)), .fz (.int p), .fz (.int p), .ow 1 (.lst (M.map dC)), .no, .no, .no, .no, .no, .no] _
    rw [← rx_swept_3]
    walk_at "z"
    refine ⟨_, atI_dM ep, ?_⟩
    walk_at "z"
    refine lcL_map' (g := dq) (f := fun q => dq (q / rp.getD p 0)) (xs := rp) (ρw := [.fz (.lst (M.map dC)), .fz (.int p), .fz (.int p), .ow 1 (.lst (M.map dC)), .no, .no, .no, .no, .no, .no]) (by omega) (fun q hq nn P N hnn hP => ?_) rfl fun ρ' hρ => ?_
    · walk_at "z"
      refine ⟨_, atI_dM ep, ?_⟩
      walk_at "z"
      refine ⟨_, atI_dC (by omega), ?_⟩
      walk_at "z"
      have := wp q hq
      have := allw_at wp (show p < rp.length by omega)
      refine sp_over.mk (by rw [← dpp]; exact hd) (by omega) ?_
      exact ⟨_, rfl, hnn, hP _ rfl⟩
    · rw [restE_wipe, hρ]
      have epv : rp.map (fun q => dq (q / rp.getD p 0)) = (pivR M p).map dq := by unfold pivR; rw [ep2, List.map_map, dpp]; rfl
      rw [epv]
      walk_at "z"
      refine lit10 rfl ?_
      rw [← rx_swept_4]
      walk_at "z"
      refine lit10 rfl ?_
      show rd_swept_5 [.fz (.lst (M.map dC)), .fz (.int p), .fz (.int p), .ow 1 (.lst (M.map dC)), .ow 1 (dC (pivR M p)), .ow 1 (.lst []), .no, .no, .no, .no] _
      rw [← rx_swept_5]
      have pl := pivR_len hM hp
      have pw := pivR_w hM hp (by omega) hd
      walk_at "zz"
      rw [enumL_map]
      refine forL_fold (g := fun x : List Rat × Nat => D.tup [.int (x.2 : Nat), dC x.1]) (st := fun acc => [.fz (.lst (M.map dC)), .fz (.int p), .fz (.int p), .fz (.lst (M.map dC)), .fz (dC (pivR M p)), .ow 1 (.lst (acc.map dC)), .no, .no, .no, .no]) (f := fun acc x => acc ++ [if x.2 = p then pivR M p else swR (pivR M p) p x.1])
        (P := fun acc zs => acc.length + zs.length ≤ 8 ∧ ∀ x ∈ zs, x.1.length = m ∧ allw W x.1) (fun acc x zs N hP hN => ?_) (M.zipIdx 0) [] ⟨by rw [List.length_zipIdx, hM.1]; show 0 + n ≤ 8; omega, fun x hx => ?_⟩ (fun _ => ?_)
      · obtain ⟨h1, h2⟩ := hP
        rw [List.length_cons] at h1
        obtain ⟨l1, w1⟩ := h2 x (by simp)
        have hN := hN ⟨by rw [List.length_append]; show acc.length + 1 + zs.length ≤ 8; omega, fun y hy => h2 y (List.mem_cons_of_mem _ hy)⟩
        have eN : ∀ w, (List.map dC (acc ++ [w])) = acc.map dC ++ [dC w] := fun w => by rw [List.map_append]; rfl
        rw [eN] at hN
        have fin : (acc.map dC).length < sizeLine := smallL (Nat.ble_eq_true_of_le (by rw [List.length_map]; omega))
        walk_at "z"
        refine lit10 rfl ?_
        rw [← rx_swept_6]
        walk_at "z"
        show way (eqb (.int (x.2 : Nat)) (.int (p : Nat))) _ _
        rw [eqb_int]
        by_cases hk : x.2 = p
        · rw [hk, decide_eq_true rfl]
          rw [if_pos hk] at hN
          walk_at "z"
          refine ⟨fin, rfl, ?_⟩
          exact hN
        · rw [decide_eq_false (by omega)]
          rw [if_neg hk] at hN
          walk_at "z"
          refine ⟨_, atI_dC (by omega), ?_⟩
          walk_at "z"
          show way (eqb (dq (x.1.getD p 0)) (dq 0)) _ _
          rw [eqb_dq]
          refine ⟨fun hc => ?_, fun hc => ?_⟩
          · walk_at "z"
            refine ⟨fin, rfl, ?_⟩
            have e0 : swR (pivR M p) p x.1 = x.1 := by
              unfold swR
              rw [of_decide_eq_true hc]
              refine List.ext_getElem? fun j => ?_
              rw [List.getElem?_zipWith]
              by_cases hj : j < m
              · rw [gd_at (show j < x.1.length by omega), gd_at (show j < (pivR M p).length by omega)]
                show some (_ - 0 * _) = some _
                congr 1
                grind
              · rw [List.getElem?_eq_none (show x.1.length ≤ j by omega)]
            rw [e0] at hN
            exact hN
          · walk_at "z"
            rw [zip_dq]
            refine lcL_map' (f := fun y : Rat × Rat => dq (y.1 - x.1.getD p 0 * y.2)) (ρw := [.fz (.lst (M.map dC)), .fz (.int p), .fz (.int p), .fz (.lst (M.map dC)), .fz (dC (pivR M p)), .ow 1 (.lst (acc.map dC)), .fz (.int x.2), .fz (dC x.1), .no, .no]) ?_ (fun y hy nn P N2 hnn hP => ?_) rfl (fun ρ' hρ => ?_)
            · rw [List.length_zip]; omega
            · obtain ⟨u, v⟩ := y
              have hu : wt u ≤ W := w1 u (List.of_mem_zip hy).1
              have hv : wt v ≤ W + W := pw v (List.of_mem_zip hy).2
              have hx : wt (x.1.getD p 0) ≤ W := allw_at w1 (show p < x.1.length by omega)
              have hm := wt_mul (x.1.getD p 0) v
              walk_at "z"
              refine ⟨_, atI_dC (by omega), ?_⟩
              walk_at "z"
              refine sp_times.mk (p := x.1.getD p 0) (q := v) (by omega) ?_
              walk_at "z"
              refine sp_minus.mk (p := u) (q := x.1.getD p 0 * v) (by omega) ?_
              exact ⟨_, rfl, hnn, hP _ rfl⟩
            · rw [restE_wipe, hρ]
              have es : (x.1.zip (pivR M p)).map (fun y : Rat × Rat => dq (y.1 - x.1.getD p 0 * y.2)) = (swR (pivR M p) p x.1).map dq := by unfold swR; rw [zw, List.map_map]; rfl
              rw [es]
              walk_at "z"
              refine ⟨fin, rfl, ?_⟩
              exact hN
      · obtain ⟨i, hi⟩ := List.mem_iff_getElem?.mp hx
        rw [List.getElem?_zipIdx] at hi
        cases e : M[i]? with
        | none => rw [e] at hi; cases hi
        | some y => rw [e] at hi; cases hi; exact hM.2 _ (List.mem_of_getElem? e)
      · rw [← rx_swept_12]
        rw [foldl_app]
        exact ⟨_, rfl, h⟩
  · obtain ⟨zs, e1, e2, e3, e4, e5⟩ := hI
    cases zs with
    | nil => cases e1
    | cons z zs =>
    cases e1
    have hz := e2 z (by simp)
    obtain ⟨r, er, er2, lr, wr⟩ := hM.row hz
    rw [e3]
    walk_at "z"
    refine ⟨_, atI_dM er, ?_⟩
    walk_at "z"
    refine ⟨_, atI_dC (by omega), ?_⟩
    walk_at "z"
    show way (!eqb (dq (r.getD p 0)) (dq 0)) _ _
    rw [eqb_dq]
    refine ⟨fun hc => ?_, fun hc => ?_⟩
    · walk_at "z"
      rw [List.length_cons] at e4
      refine ⟨smallL (Nat.ble_eq_true_of_le (by omega)), hP _ _ ⟨zs, rfl, fun y hy => e2 y (List.mem_cons_of_mem _ hy), rfl, by rw [List.length_append]; show acc.length + 1 + zs.length ≤ 8; omega, .inr ?_⟩⟩
      rcases e5 with ⟨rfl, zs', q⟩ | ⟨r', rfl⟩
      · cases q; exact ⟨[], rfl⟩
      · exact ⟨r' ++ [_], rfl⟩
    · rw [List.length_cons] at e4
      refine hN _ ⟨zs, rfl, fun y hy => e2 y (List.mem_cons_of_mem _ hy), rfl, by omega, ?_⟩
      rcases e5 with ⟨rfl, zs', q⟩ | q
      · cases q
        rw [ep] at er
        cases er
        rw [← dpp, Bool.not_eq_false'] at hc
        exact absurd (of_decide_eq_true hc) hd
      · exact .inr q
  · rcases List.mem_cons.mp hz with rfl | hz
    · exact hp
    · obtain ⟨k, hk, rfl⟩ := List.mem_map.mp hz
      have := List.mem_range.mp hk
      omega
  · show 0 + (((List.range (n - p - 1)).map fun k => p + k + 1).length + 1) ≤ 8
    rw [List.length_map, List.length_range]; omega
theorem rp_solved (ds : List D) (R : RR) (hl : ds.length = 1) (h : sp_solved ds R) : rd_solved (rho0 [false] 0 ds ++ List.replicate (3 - 1) .no) (endsOf [false] R) := by
  unfold sp_solved at h
  obtain ⟨M, n, m, W, rfl, hM, hn, hnm, hm, hv, hW, h⟩ := h
  have hlM : (M.map dC).length = n := by rw [List.length_map, hM.1]
  unfold dM at *
  walk_at "zz"
  refine ⟨by omega, ?_⟩
  walk_at "zz"
  have ei : (List.range (((M.map dC).length : Int)).toNat).map (fun (i : Nat) => D.int (0 + (i : Int))) = (List.range n).map fun (i : Nat) => D.int i := by
    rw [show (((M.map dC).length : Int)).toNat = n by omega]
    exact List.map_congr_left fun k _ => by rw [Int.zero_add]
  show forL (rgName 1) (rBW [1] rd_solved_2) ((List.range (((M.map dC).length : Int)).toNat).map (fun (i : Nat) => D.int (0 + (i : Int)))) [.fz (.lst (M.map dC)), .no, .no] _
  rw [ei]
  refine forL_rel (g := fun (i : Nat) => D.int i) (st := fun t : Sl => [t, .no, .no]) (P := fun t zs => ∃ p, p ≤ n ∧ zs = List.range' p (n - p) ∧ (t = .fz (dM (swAll M p)) ∨ t = .ow 1 (dM (swAll M p)))) (fun t z zs N hP hN => ?_) (List.range n) _ ⟨0, Nat.zero_le _, by rw [List.range_eq_range']; rfl, .inl rfl⟩ (fun t hP => ?_)
  · obtain ⟨p, hp, ez, ht⟩ := hP
    have hp' : p < n := by
      rcases Nat.lt_or_ge p n with g | g
      · exact g
      · rw [Nat.sub_eq_zero_of_le g] at ez; cases ez
    rw [show n - p = (n - (p + 1)) + 1 by omega, List.range'_succ] at ez
    cases ez
    obtain ⟨a, b⟩ := all_ok hM hnm hv z hp
    have wl : Wg W z ≤ 10000000 := by
      have e1 := Wg_le W z
      have e2 := Nat.pow_le_pow_right (show 1 ≤ 4 by decide) (show z ≤ 8 by omega)
      have e3 : 4 ^ z * (W + 1) ≤ 65536 * (140 + 1) := Nat.mul_le_mul e2 (by omega)
      omega
    have go : R = R := rfl
    rcases ht with rfl | rfl
    · walk_at "z"
      refine lit3 rfl ?_
      rw [← rx_solved_2]
      walk_at "z"
      refine sp_swept.mk n m (Wg W z) a hn hnm hm hp' (hv z hp') wl ?_
      refine ⟨_, rfl, rfl, rfl, hN _ ⟨z + 1, hp', rfl, .inr rfl⟩⟩
    · walk_at "z"
      refine lit3 rfl ?_
      rw [← rx_solved_2]
      walk_at "z"
      refine sp_swept.mk n m (Wg W z) a hn hnm hm hp' (hv z hp') wl ?_
      refine ⟨_, rfl, rfl, rfl, hN _ ⟨z + 1, hp', rfl, .inr rfl⟩⟩
  · obtain ⟨p, hp, ez, ht⟩ := hP
    obtain rfl : p = n := by
      rcases Nat.lt_or_ge p n with g | g
      · rw [show n - p = (n - (p + 1)) + 1 by omega, List.range'_succ] at ez; cases ez
      · omega
    rw [← rx_solved_3]
    obtain ⟨a, b⟩ := all_ok hM hnm hv p hp
    have la : (swAll M p).length = p := a.1
    unfold dM at ht
    have fin : ∀ ρ, ρ = [Sl.fz (.lst ((swAll M p).map dC)), .no, .no] → lcL [2] (rgName 2) rYes (rSlA2 (roV 2) (rpSome (rCB gLen (raCons (roV 0) raNil))) rpNone) ((swAll M p).map dC) ρ [] fun ds ρ2 => (endsOf [false] R).rt (.lst ds) 1 (restE [2] ρ ρ2) := by
      rintro ρ rfl
      refine lcL_map' (f := fun r => dC (r.drop p)) (ρw := [.fz (.lst ((swAll M p).map dC)), .no, .no]) (by omega) (fun r hr nn P N2 hnn hP => ?_) rfl (fun ρ' hρ => ?_)
      · have lr := (a.2 r hr).1
        walk_at "z"
        have ec : cutL (r.map dq) (some (((swAll M p).map dC).length : Int)) none = (r.drop p).map dq := by
          rw [List.length_map, la, cut_drop (by rw [List.length_map]; omega), List.map_drop]
        show nn < sizeLine ∧ P (.lst (cutL (r.map dq) (some (((swAll M p).map dC).length : Int)) none)) [.fz (.lst ((swAll M p).map dC)), .no, .fz (dC r)]
        rw [ec]
        exact ⟨hnn, hP _ rfl⟩
      · rw [restE_wipe, hρ]
        walk_at "z"
        unfold solvedM at h
        rw [List.map_map] at h
        exact h
    rcases ht with rfl | rfl
    · walk_at "z"
      exact fin _ rfl
    · walk_at "z"
      exact fin _ rfl

@[irreducible] def sp_leads_of : ASp := fun ds R => ∃ (l : Land) (q : Rat) (hs : List Int), ds = [dLand l, dq q, .tup (hs.map .int)] ∧ LandOk l ∧ RowOk l hs ∧ Shr q ∧ R (dM (leadsM l q hs)) 1 []
theorem sp_leads_of.mk {l : Land} {q : Rat} {hs : List Int} {R : RR} (h1 : LandOk l) (h2 : RowOk l hs) (h3 : Shr q) (r : R (dM (leadsM l q hs)) 1 []) : sp_leads_of [dLand l, dq q, .tup (hs.map .int)] R := by unfold sp_leads_of; exact ⟨l, q, hs, rfl, h1, h2, h3, r⟩
@[irreducible] def sp_habit_sums : ASp := fun ds R => ∃ (l : Land) (q : Rat) (hs : List Int), ds = [dLand l, dq q, .tup (hs.map .int)] ∧ LandOk l ∧ RowOk l hs ∧ Shr q ∧ R (dWs (habS l q hs)) 1 []
theorem sp_habit_sums.mk {l : Land} {q : Rat} {hs : List Int} {R : RR} (h1 : LandOk l) (h2 : RowOk l hs) (h3 : Shr q) (r : R (dWs (habS l q hs)) 1 []) : sp_habit_sums [dLand l, dq q, .tup (hs.map .int)] R := by unfold sp_habit_sums; exact ⟨l, q, hs, rfl, h1, h2, h3, r⟩
@[irreducible] def sp_l_share : ASp := fun ds R => ∃ (t : Tp) (n : Nat), ds = [dT t] ∧ t.ok (n + 3) ∧ ∀ q t', Shr q → t'.ok n → R (dq q) 0 [dT t']
theorem sp_l_share.mk {t : Tp} {R : RR} (n : Nat) (ht : t.ok (n + 3)) (h : ∀ q t', Shr q → t'.ok n → R (dq q) 0 [dT t']) : sp_l_share [dT t] R := by unfold sp_l_share; exact ⟨t, n, rfl, ht, h⟩
@[irreducible] def sp_l_habit : ASp := fun ds R => ∃ (t : Tp) (l : Land) (n : Nat), ds = [dT t, dLand l] ∧ LandOk l ∧ t.ok (n + 8) ∧ ∀ (hs : List Int) t', RowOk l hs → t'.ok n → R (.tup (hs.map .int)) 0 [dT t']
theorem sp_l_habit.mk {t : Tp} {l : Land} {R : RR} (n : Nat) (hl : LandOk l) (ht : t.ok (n + 8)) (h : ∀ (hs : List Int) t', RowOk l hs → t'.ok n → R (.tup (hs.map .int)) 0 [dT t']) : sp_l_habit [dT t, dLand l] R := by unfold sp_l_habit; exact ⟨t, l, n, rfl, hl, ht, h⟩

def rb_leads_of_5 : RS := (rSetIx 6 (rCall [false, false] sp_times (rgAv (rVar 1) (rgAv (rVar 8) rgA0))) (rVar 7))
@[irreducible] def rd_leads_of_5 : RS := rb_leads_of_5
theorem rx_leads_of_5 : rb_leads_of_5 = rd_leads_of_5 := by unfold rd_leads_of_5; rfl
def rb_leads_of_6 : RS := (rDrop (rMetF 3 gApp (rfCons (rVar 6) rfNil)))
@[irreducible] def rd_leads_of_6 : RS := rb_leads_of_6
theorem rx_leads_of_6 : rb_leads_of_6 = rd_leads_of_6 := by unfold rd_leads_of_6; rfl
def rb_leads_of_4 : RS := (rSeq (rFor (rIW [7, 8] (riSeq (rIfE (rTb (rOp2 gGeI (roV 5) (roE (rC (.int 0))))) (rOp2 gIx (roE (rOp2 gIx (roE (rOp2 gIx (roV 4) (roE (rC (.int 2))))) (roV 5))) (roE (rC (.int 1)))) (rLst1 rfNil)))) (rgTup 2 (rgCons (rgName 7) (rgCons (rgName 8) rgNil))) (rBW [7, 8] rd_leads_of_5))
  rd_leads_of_6)
@[irreducible] def rd_leads_of_4 : RS := rb_leads_of_4
theorem rx_leads_of_4 : rb_leads_of_4 = rd_leads_of_4 := by unfold rd_leads_of_4; rfl
def rb_leads_of_3 : RS := (rSeq (rSet 6 (rOp2 gRep (roE (rLst1 (rfCons (rC k_NOUGHT_endless) rfNil))) (roE (rCB gLen (raCons (roE (rOp2 gIx (roV 0) (roE (rC (.int 1))))) raNil)))))
  rd_leads_of_4)
@[irreducible] def rd_leads_of_3 : RS := rb_leads_of_3
theorem rx_leads_of_3 : rb_leads_of_3 = rd_leads_of_3 := by unfold rd_leads_of_3; rfl
def rb_leads_of_7 : RS := (rRet (rMove 3))
@[irreducible] def rd_leads_of_7 : RS := rb_leads_of_7
theorem rx_leads_of_7 : rb_leads_of_7 = rd_leads_of_7 := by unfold rd_leads_of_7; rfl
def rb_leads_of_2 : RS := (rSeq (rFor (rIW [4, 5, 6, 7, 8] (riZipA (rfCons (rOp2 gIx (roV 0) (roE (rC (.int 1)))) (rfCons (rVar 2) rfNil)))) (rgTup 2 (rgCons (rgName 4) (rgCons (rgName 5) rgNil))) (rBW [4, 5, 6, 7, 8] rd_leads_of_3))
  rd_leads_of_7)
@[irreducible] def rd_leads_of_2 : RS := rb_leads_of_2
theorem rx_leads_of_2 : rb_leads_of_2 = rd_leads_of_2 := by unfold rd_leads_of_2; rfl
def rd_leads_of : RS := (rSeq (rSet 3 (rLst1 rfNil))
  rd_leads_of_2)
def rb_habit_sums_5 : RS := (rDrop (rMetF 3 gApp (rfCons (rOp2 gAddA (roV 8) (roE (rCB gListOf (raCons (roE (rIfE (rTb (rOp2 gLtI (roV 7) (roE (rC (.int 0))))) (rOp2 gIx (roV 6) (roE (rC (.int 1)))) (rOp2 gIx (roE (rOp2 gIx (roE (rOp2 gIx (roV 6) (roE (rC (.int 2))))) (roV 7))) (roE (rC (.int 0)))))) raNil)))) rfNil)))
@[irreducible] def rd_habit_sums_5 : RS := rb_habit_sums_5
theorem rx_habit_sums_5 : rb_habit_sums_5 = rd_habit_sums_5 := by unfold rd_habit_sums_5; rfl
def rb_habit_sums_4 : RS := (rSeq (rSet 8 (rLc [9, 10] (riEnumA (rfCons (rVar 5) rfNil)) (rgTup 2 (rgCons (rgName 9) (rgCons (rgName 10) rgNil))) rYes (rCall [false, false] sp_minus (rgAv (rIfE (rTb (rOp2 gEq (roV 9) (roV 4))) (rC k_ONE) (rC k_NOUGHT_endless)) (rgAv (rVar 10) rgA0)))))
  rd_habit_sums_5)
@[irreducible] def rd_habit_sums_4 : RS := rb_habit_sums_4
theorem rx_habit_sums_4 : rb_habit_sums_4 = rd_habit_sums_4 := by unfold rd_habit_sums_4; rfl
def rb_habit_sums_3 : RS := (rSeq (rPar 6 7 (rOp2 gIx (roE (rOp2 gIx (roV 0) (roE (rC (.int 1))))) (roV 4)) (rOp2 gIx (roV 2) (roV 4)))
  rd_habit_sums_4)
@[irreducible] def rd_habit_sums_3 : RS := rb_habit_sums_3
theorem rx_habit_sums_3 : rb_habit_sums_3 = rd_habit_sums_3 := by unfold rd_habit_sums_3; rfl
def rb_habit_sums_6 : RS := (rRet (rLc [8] (riSeq (rCall [false] sp_solved (rgAv (rVar 3) rgA0))) (rgName 8) rYes (rCB gTupOf (raCons (roV 8) raNil))))
@[irreducible] def rd_habit_sums_6 : RS := rb_habit_sums_6
theorem rx_habit_sums_6 : rb_habit_sums_6 = rd_habit_sums_6 := by unfold rd_habit_sums_6; rfl
def rb_habit_sums_2 : RS := (rSeq (rFor (rIW [4, 5, 6, 7, 8] (riEnumA (rfCons (rCall [false, false, false] sp_leads_of (rgAv (rVar 0) (rgAv (rVar 1) (rgAv (rVar 2) rgA0)))) rfNil))) (rgTup 2 (rgCons (rgName 4) (rgCons (rgName 5) rgNil))) (rBW [4, 5, 6, 7, 8] rd_habit_sums_3))
  rd_habit_sums_6)
@[irreducible] def rd_habit_sums_2 : RS := rb_habit_sums_2
theorem rx_habit_sums_2 : rb_habit_sums_2 = rd_habit_sums_2 := by unfold rd_habit_sums_2; rfl
def rd_habit_sums : RS := (rSeq (rSet 3 (rLst1 rfNil))
  rd_habit_sums_2)
def rd_l_share : RS := (rSeq (rSet 1 (rOp2 gAddA (roE (rC (.int 2))) (roE (rCall [true, false] sp_l_draw (rgAs 0 (rgAv (rC (.int 998)) rgA0))))))
  (rSeq (rSet 2 (rLst1 (rfCons (rTup1 (rfCons (rC (.int 1)) (rfCons (rC (.int 2)) rfNil))) (rfCons (rTup1 (rfCons (rC (.int 1)) (rfCons (rC (.int 3)) rfNil))) (rfCons (rTup1 (rfCons (rC (.int 2)) (rfCons (rC (.int 3)) rfNil))) (rfCons (rTup1 (rfCons (rC (.int 9)) (rfCons (rC (.int 10)) rfNil))) (rfCons (rTup1 (rfCons (rC (.int 99)) (rfCons (rC (.int 100)) rfNil))) (rfCons (rTup1 (rfCons (rC (.int 1)) (rfCons (rC (.int 1000)) rfNil))) rfNil))))))))
  (rRet (rOp2 gIx (roE (rOp2 gAddA (roV 2) (roE (rLst1 (rfCons (rCall [false, false] sp_l_part (rgAv (rOp2 gAddA (roE (rC (.int 1))) (roE (rCall [true, false] sp_l_draw (rgAs 0 (rgAv (rOp2 gSub (roV 1) (roE (rC (.int 1)))) rgA0))))) (rgAv (rVar 1) rgA0))) rfNil))))) (roE (rCall [true, false] sp_l_draw (rgAs 0 (rgAv (rC (.int 7)) rgA0))))))))
def rd_l_habit : RS := (rRet (rCB gTupOf (raCons (roE (rLc [2] (riSeq (rOp2 gIx (roV 1) (roE (rC (.int 1))))) (rgName 2) rYes (rIfE (rTb (rOp2 gNeN (roE (rOp2 gIx (roV 2) (roE (rC (.int 2))))) (roE (rLst1 rfNil)))) (rCall [true, false] sp_l_draw (rgAs 0 (rgAv (rCB gLen (raCons (roE (rOp2 gIx (roV 2) (roE (rC (.int 2))))) raNil)) rgA0))) (rNeg (rC (.int 1)))))) raNil)))
theorem zip_sh : ∀ {ss : List St} {row : List Int}, zipL (ss.map dSt) (row.map .int) = (ss.zip row).map fun x => D.tup [dSt x.1, .int x.2]
  | [], _ => rfl
  | _ :: _, [] => rfl
  | s :: ss, z :: row => by
    show D.tup [dSt s, .int z] :: zipL (ss.map dSt) (row.map .int) = _
    rw [zip_sh]; rfl
theorem habit_case {z : Int} {s : St} (ho : okH (.int z) s = true) : (z < 0 ∧ deedOf s z = none) ∨ ∃ d, 0 ≤ z ∧ deedOf s z = some d ∧ atI s.ds z = some d := by
  cases he : s.ds.isEmpty with
  | true =>
    have := okH_end ho he
    subst this
    exact .inl ⟨by decide, rfl⟩
  | false =>
    obtain ⟨d, h0, e1, e2, _⟩ := okH_deed ho he
    refine .inr ⟨d, h0, ?_, e2⟩
    unfold deedOf
    rw [if_neg (by omega), e1]
theorem shr_div {x y : Int} (hx : 0 < x) (hy : x < y) (h1 : bl x.natAbs ≤ 10) (h2 : bl y.natAbs ≤ 10) : Shr (Rat.divInt x y) := by
  have c := divInt_cross (t := x) (b := y) (by omega)
  have w := divInt_wt x y (by omega)
  have d : (0 : Int) < (Rat.divInt x y).den := by have := (Rat.divInt x y).den_pos; omega
  have p1 := Int.mul_pos hx d
  generalize Rat.divInt x y = q at *
  have n0 : 0 < q.num := by
    rcases Int.lt_or_le 0 q.num with g | g
    · exact g
    · have := Int.mul_nonneg (a := -q.num) (b := y) (by omega) (by omega)
      rw [Int.neg_mul] at this
      omega
  have n1 : q.num < q.den := by
    rcases Int.lt_or_le q.num q.den with g | g
    · exact g
    · have a1 := Int.mul_le_mul_of_nonneg_right g (show 0 ≤ y by omega)
      have a2 := Int.mul_lt_mul_of_pos_left hy d
      rw [Int.mul_comm x] at c
      omega
  refine ⟨?_, ?_, by omega⟩
  · rw [Rat.lt_iff]
    show 0 * _ < q.num * ((1 : Nat) : Int)
    omega
  · rw [Rat.lt_iff]
    show q.num * ((1 : Nat) : Int) < 1 * (q.den : Int)
    omega
theorem shr_lit {x y : Int} {q : Rat} (hx : 0 < x) (hy : x < y) (h1 : y ≤ 1000) (e : Rat.divInt x y = q) : Shr q := by
  rw [← e]
  exact shr_div hx hy (bl_le (by omega)) (bl_le (by omega))
theorem part_lit {x y : Int} (h : 0 < y) (g : Int.gcd x y = 1) : dq (Rat.divInt x y) = .tup [.int x, .int y] := by
  obtain ⟨n, rfl⟩ : ∃ n : Nat, y = n := ⟨y.toNat, by omega⟩
  rw [← Rat.mk_eq_divInt (num := x) (den := n) (nz := by omega) (c := g)]
  rfl
theorem rp_l_share (ds : List D) (R : RR) (hl : ds.length = 1) (h : sp_l_share ds R) : rd_l_share (rho0 [true] 0 ds ++ List.replicate (3 - 1) .no) (endsOf [true] R) := by
  unfold sp_l_share at h
  obtain ⟨t, n, rfl, ht, h⟩ := h
  walk_at "z"
  refine sp_l_draw.mk' (n + 2) ht (by omega) (by omega) fun a t2 a0 a1 ht2 => ?_
  walk_at "z"
  refine sp_l_draw.mk' (t := t2) (n + 1) ht2 (by omega) (by omega) fun b t3 b0 b1 ht3 => ?_
  walk_at "z"
  have w1 : bl (1 + b).natAbs ≤ 10 := bl_le (by omega)
  have w2 : bl (2 + a).natAbs ≤ 10 := bl_le (by omega)
  refine sp_l_part.mk (by omega) (by omega) (by omega) ?_
  walk_at "z"
  refine sp_l_draw.mk' (t := t3) n ht3 (by omega) (by omega) fun c t4 c0 c1 ht4 => ?_
  walk_at "z"
  obtain ⟨x, ex, q, rfl, hq⟩ := ix_fin (xs := [D.tup [D.int 1, D.int 2], D.tup [D.int 1, D.int 3], D.tup [D.int 2, D.int 3], D.tup [D.int 9, D.int 10], D.tup [D.int 99, D.int 100], D.tup [D.int 1, D.int 1000]] ++ [dq (Rat.divInt (1 + b) (2 + a))]) (Q := fun x => ∃ q, x = dq q ∧ Shr q) c0 c1 (by
    intro x hx
    have lit : ∀ i j : Int, 0 < i → i < j → j ≤ 1000 → Int.gcd i j = 1 → ∃ q, D.tup [.int i, .int j] = dq q ∧ Shr q := fun i j h1 h2 h3 h4 => ⟨_, (part_lit (by omega) h4).symm, shr_lit h1 h2 h3 rfl⟩
    simp only [List.mem_append, List.mem_cons, List.not_mem_nil, or_false] at hx
    rcases hx with (rfl | rfl | rfl | rfl | rfl | rfl) | rfl
    · exact lit 1 2 (by decide) (by decide) (by decide) rfl
    · exact lit 1 3 (by decide) (by decide) (by decide) rfl
    · exact lit 2 3 (by decide) (by decide) (by decide) rfl
    · exact lit 9 10 (by decide) (by decide) (by decide) rfl
    · exact lit 99 100 (by decide) (by decide) (by decide) rfl
    · exact lit 1 1000 (by decide) (by decide) (by decide) rfl
    · exact ⟨_, rfl, shr_div (by omega) (by omega) w1 w2⟩)
  refine ⟨_, ex, ?_⟩
  exact ⟨_, rfl, h q t4 hq ht4⟩
theorem rp_l_habit (ds : List D) (R : RR) (hl : ds.length = 2) (h : sp_l_habit ds R) : rd_l_habit (rho0 [true, false] 0 ds ++ List.replicate (3 - 2) .no) (endsOf [true, false] R) := by
  unfold sp_l_habit at h
  obtain ⟨t, l, n, rfl, hok, ht, h⟩ := h
  have h8 := hok.n8
  walk_at "z"
  refine lcL_inv (I := fun items acc ρ => ∃ (t : Tp) (hs : List Int) (done rest : List St), wipeE [2] ρ = [.io 0 (dT t), .fz (dLand l), .no] ∧ acc = hs.map D.int ∧ items = rest.map dSt ∧ l.sts = done ++ rest ∧ hs.length = done.length ∧ okHs (hs.map D.int) done = true ∧ (∀ h ∈ hs, -1 ≤ h ∧ h ≤ 8) ∧ t.ok (n + rest.length)) (fun acc ρ hI => ?_) (fun d ds acc ρ P N hP hN hI => ?_) _ _ _ ⟨t, [], [], l.sts, rfl, rfl, rfl, rfl, rfl, rfl, fun h hh => absurd hh List.not_mem_nil, ht.le (by omega)⟩
  · obtain ⟨t1, hs, done, rest, e1, rfl, e2, e3, hln, hh, hb, ht1⟩ := hI
    rw [restE_wipe, e1]
    cases rest with
    | cons _ _ => cases e2
    | nil =>
    rw [List.append_nil] at e3
    walk_at "z"
    refine h hs t1 ⟨by rw [e3]; exact hln, hb, ?_⟩ (ht1.le (by simp))
    show okHs _ l.sts = true
    rw [e3]
    exact hh
  · obtain ⟨t1, hs, done, rest, e1, rfl, e2, e3, hln, hh, hb, ht1⟩ := hI
    cases rest with
    | nil => cases e2
    | cons s rest =>
    cases e2
    rw [e1]
    have hs3 := (hok.sts s (by rw [e3]; simp)).few
    rw [List.length_cons] at ht1
    have h9 : done.length < 8 := by
      rw [e3, List.length_append, List.length_cons] at h8
      omega
    have go : ∀ (i : Int) (t2 : Tp), okH (.int i) s = true → -1 ≤ i → i ≤ 8 → t2.ok (n + rest.length) → (hs.map D.int).length < sizeLine ∧ P (.int i) [.io 0 (dT t2), .fz (dLand l), .fz (dSt s)] := fun i t2 h1 h2 h3 h4 => by
      refine ⟨smallL (Nat.ble_eq_true_of_le (by rw [List.length_map]; omega)), hP _ _ ⟨t2, hs ++ [i], done ++ [s], rest, rfl, by rw [List.map_append]; rfl, rfl, by rw [e3, List.append_assoc]; rfl, by rw [List.length_append, List.length_append, hln]; rfl, ?_, ?_, h4⟩⟩
      · rw [List.map_append]
        refine okHs_app hh ?_
        show (okH (.int i) s && true) = true
        rw [h1]; rfl
      · intro x hx
        rcases List.mem_append.mp hx with hx | hx
        · exact hb x hx
        · rw [List.mem_singleton.mp hx]; exact ⟨h2, h3⟩
    walk_at "z"
    show way (!(s.ds.map dDeed).isEmpty) _ _
    rw [List.isEmpty_map]
    cases hE : s.ds.isEmpty with
    | true =>
      refine ⟨fun z => Bool.noConfusion z, fun _ => ?_⟩
      walk_at "z"
      refine go (-1) t1 ?_ (by decide) (by decide) (ht1.le (by omega))
      show (if s.ds.isEmpty then decide ((-1 : Int) = -1) else _) = true
      rw [hE]; rfl
    | false =>
      refine ⟨fun _ => ?_, fun z => Bool.noConfusion z⟩
      have hp : 0 < s.ds.length := by
        cases hd : s.ds with
        | nil => rw [hd] at hE; cases hE
        | cons _ _ => exact Nat.succ_pos _
      walk_at "z"
      rw [List.length_map]
      refine sp_l_draw.mk' (n + rest.length) (ht1.le (by omega)) (by omega) (by omega) fun a t2 a0 a1 ht2 => ?_
      walk_at "z"
      refine go a t2 ?_ (by omega) (by omega) ht2
      show (if s.ds.isEmpty then _ else decide (0 ≤ a) && decide (a < (s.ds.length : Int))) = true
      rw [hE, if_neg (by decide), decide_eq_true a0, decide_eq_true a1]; rfl
theorem rp_leads_of (ds : List D) (R : RR) (hl : ds.length = 3) (h : sp_leads_of ds R) : rd_leads_of (rho0 [false, false, false] 0 ds ++ List.replicate (9 - 3) .no) (endsOf [false, false, false] R) := by
  unfold sp_leads_of at h
  obtain ⟨l, q, hs, rfl, hok, hrow, hq, h⟩ := h
  have h8 := hok.n8
  unfold dM at h
  walk_at "z"
  refine lit9 rfl ?_
  rw [← rx_leads_of_2]
  walk_at "zz"
  rw [zip_sh]
  refine forL_fold (g := fun x : St × Int => D.tup [dSt x.1, .int x.2]) (st := fun acc => [.fz (dLand l), .fz (dq q), .fz (.tup (hs.map .int)), .ow 1 (.lst (acc.map dC)), .no, .no, .no, .no, .no]) (f := fun acc x => acc ++ [leadSt l.sts.length q x.1 x.2])
    (P := fun acc zs => acc.length + zs.length ≤ 8 ∧ ∀ x ∈ zs, okH (.int x.2) x.1 = true ∧ ∃ i : Nat, l.sts[i]? = some x.1) (fun acc x zs N hP hN => ?_) (l.sts.zip hs) [] ⟨by rw [List.length_zip]; show 0 + _ ≤ 8; omega, fun x hx => ?_⟩ (fun _ => ?_)
  · obtain ⟨h1, h2⟩ := hP
    rw [List.length_cons] at h1
    obtain ⟨ho, i, ei⟩ := h2 x (by simp)
    have hN := hN ⟨by rw [List.length_append]; show acc.length + 1 + zs.length ≤ 8; omega, fun y hy => h2 y (List.mem_cons_of_mem _ hy)⟩
    have eN : ∀ w, (List.map dC (acc ++ [w])) = acc.map dC ++ [dC w] := fun w => by rw [List.map_append]; rfl
    rw [eN] at hN
    have fin : (acc.map dC).length < sizeLine := smallL (Nat.ble_eq_true_of_le (by rw [List.length_map]; omega))
    walk_at "z"
    refine lit9 rfl ?_
    rw [← rx_leads_of_3]
    walk_at "z"
    refine ⟨by omega, by rw [List.length_map]; omega, by show 1 * _ ≤ 1000; rw [List.length_map]; omega, ?_⟩
    have er : (List.replicate (((l.sts.map dSt).length : Int)).toNat [k_NOUGHT_endless]).flatten = (List.replicate l.sts.length (0 : Rat)).map dq := by
      rw [show (((l.sts.map dSt).length : Int)).toNat = l.sts.length by rw [List.length_map]; omega]
      generalize l.sts.length = n
      induction n with
      | zero => rfl
      | succ n ih => rw [List.replicate_succ, List.flatten_cons, ih]; rfl
    rw [er]
    walk_at "z"
    refine lit9 rfl ?_
    have t6 : ∀ (E : EN), E.nx [.fz (dLand l), .fz (dq q), .fz (.tup (hs.map .int)), .ow 1 (.lst (acc.map dC ++ [dC (leadSt l.sts.length q x.1 x.2)])), .fz (dSt x.1), .fz (.int x.2), .fz (dC (leadSt l.sts.length q x.1 x.2)), .no, .no] →
        rd_leads_of_6 [.fz (dLand l), .fz (dq q), .fz (.tup (hs.map .int)), .ow 1 (.lst (acc.map dC)), .fz (dSt x.1), .fz (.int x.2), .ow 1 (dC (leadSt l.sts.length q x.1 x.2)), .no, .no] E := fun E hE => by
      rw [← rx_leads_of_6]
      walk_at "z"
      exact ⟨fin, hE⟩
    have key : ∀ (E : EN), E.nx [.fz (dLand l), .fz (dq q), .fz (.tup (hs.map .int)), .ow 1 (.lst (acc.map dC ++ [dC (leadSt l.sts.length q x.1 x.2)])), .fz (dSt x.1), .fz (.int x.2), .fz (dC (leadSt l.sts.length q x.1 x.2)), .no, .no] →
        rd_leads_of_4 [.fz (dLand l), .fz (dq q), .fz (.tup (hs.map .int)), .ow 1 (.lst (acc.map dC)), .fz (dSt x.1), .fz (.int x.2), .ow 1 (dC (List.replicate l.sts.length 0)), .no, .no] E := fun E hE => by
      have t6 := t6 E hE
      rw [← rx_leads_of_4]
      walk_at "zz"
      show way (decide (x.2 ≥ 0)) _ _
      rcases habit_case ho with ⟨z0, e0⟩ | ⟨d, z0, e0, e1⟩
      · rw [decide_eq_false (by omega)]
        walk_at "zz"
        have el : leadSt l.sts.length q x.1 x.2 = List.replicate l.sts.length 0 := by unfold leadSt fsOf; rw [e0]; rfl
        rw [el] at t6
        exact t6
      · rw [decide_eq_true (by omega)]
        walk_at "zz"
        refine ⟨_, atI_map e1, ?_⟩
        walk_at "zz"
        have fok := (deedOf_ok hok ei e0).fol
        have el : leadSt l.sts.length q x.1 x.2 = d.fs.foldl (fun row x => row.set x.1 (q * x.2)) (List.replicate l.sts.length 0) := by unfold leadSt fsOf; rw [e0]
        rw [el] at t6
        refine forL_fold (g := dF) (st := fun row => [.fz (dLand l), .fz (dq q), .fz (.tup (hs.map .int)), .ow 1 (.lst (acc.map dC)), .fz (dSt x.1), .fz (.int x.2), .ow 1 (dC row), .no, .no]) (f := fun row x => row.set x.1 (q * x.2))
          (P := fun row zs => row.length = l.sts.length ∧ ∀ y ∈ zs, y.1 < l.sts.length ∧ wt y.2 ≤ 6) (fun row y ys N2 hP2 hN2 => ?_) d.fs _ ⟨List.length_replicate, fun y hy => ⟨fok.lt y hy, fok.wt y hy⟩⟩ (fun _ => t6)
        obtain ⟨r1, r2⟩ := hP2
        obtain ⟨y1, y2⟩ := r2 y (by simp)
        have hN2 := hN2 ⟨by rw [List.length_set]; exact r1, fun u hu => r2 u (List.mem_cons_of_mem _ hu)⟩
        have hq10 := hq.wt
        walk_at "z"
        refine lit9 rfl ?_
        rw [← rx_leads_of_5]
        walk_at "z"
        refine sp_times.mk (p := q) (by omega) ?_
        walk_at "z"
        refine ⟨_, ixN_nat (by rw [List.length_map]; omega), rfl, ?_⟩
        have es : (row.map dq).set y.1 (dq (q * y.2)) = (row.set y.1 (q * y.2)).map dq := by rw [List.map_set]
        rw [es]
        exact hN2
    exact key _ ⟨rfl, hN⟩
  · obtain ⟨i, hi⟩ := List.mem_iff_getElem?.mp hx
    have hi1 : i < (l.sts.zip hs).length := (List.getElem?_eq_some_iff.mp hi).1
    rw [List.length_zip] at hi1
    have e := List.getElem?_eq_getElem (show i < l.sts.length by omega)
    obtain ⟨z, ez, ho⟩ := hrow.at e
    rw [zip_at e ez] at hi
    cases hi
    exact ⟨ho, i, e⟩
  · rw [← rx_leads_of_7]
    rw [foldl_app]
    exact ⟨_, rfl, h⟩
theorem rp_habit_sums (ds : List D) (R : RR) (hl : ds.length = 3) (h : sp_habit_sums ds R) : rd_habit_sums (rho0 [false, false, false] 0 ds ++ List.replicate (11 - 3) .no) (endsOf [false, false, false] R) := by
  unfold sp_habit_sums at h
  obtain ⟨l, q, hs, rfl, hok, hrow, hq, h⟩ := h
  have h8 := hok.n8
  have h4 := hok.k4
  have hln := hrow.1
  walk_at "z"
  refine lit11 rfl ?_
  rw [← rx_habit_sums_2]
  walk_at "zz"
  refine sp_leads_of.mk hok hrow hq ?_
  unfold dM
  walk_at "zz"
  rw [enumL_map]
  have hll : (leadsM l q hs).length = l.sts.length := by unfold leadsM; rw [List.length_map, List.length_zip]; omega
  refine forL_fold (g := fun x : List Rat × Nat => D.tup [.int (x.2 : Nat), dC x.1]) (st := fun acc => [.fz (dLand l), .fz (dq q), .fz (.tup (hs.map .int)), .ow 1 (.lst (acc.map dC)), .no, .no, .no, .no, .no, .no, .no]) (f := fun acc x => acc ++ [unitR x.2 x.1 ++ (match l.sts[x.2]?, hs[x.2]? with | some s, some z => wOf s z | _, _ => [])])
    (P := fun acc zs => acc.length + zs.length ≤ 8 ∧ ∀ x ∈ zs, ∃ s z, l.sts[x.2]? = some s ∧ hs[x.2]? = some z ∧ okH (.int z) s = true ∧ x.1 = leadSt l.sts.length q s z) (fun acc x zs N hP hN => ?_) ((leadsM l q hs).zipIdx 0) [] ⟨by rw [List.length_zipIdx, hll]; show 0 + _ ≤ 8; omega, fun x hx => ?_⟩ (fun _ => ?_)
  · obtain ⟨h1, h2⟩ := hP
    rw [List.length_cons] at h1
    obtain ⟨s, z, es, ez, ho, ex⟩ := h2 x (by simp)
    have hN := hN ⟨by rw [List.length_append]; show acc.length + 1 + zs.length ≤ 8; omega, fun y hy => h2 y (List.mem_cons_of_mem _ hy)⟩
    have eN : ∀ w, (List.map dC (acc ++ [w])) = acc.map dC ++ [dC w] := fun w => by rw [List.map_append]; rfl
    rw [es, ez] at hN
    have hN : N [.fz (dLand l), .fz (dq q), .fz (.tup (hs.map .int)), .ow 1 (.lst ((acc ++ [unitR x.2 x.1 ++ wOf s z]).map dC)), .no, .no, .no, .no, .no, .no, .no] := hN
    rw [eN] at hN
    have fin : (acc.map dC).length < sizeLine := smallL (Nat.ble_eq_true_of_le (by rw [List.length_map]; omega))
    obtain ⟨lo, lw⟩ := lead_ok (z := z) hok hq es
    rw [← ex] at lo lw
    walk_at "z"
    refine lit11 rfl ?_
    rw [← rx_habit_sums_3]
    walk_at "z"
    refine ⟨_, at_st es, ?_⟩
    walk_at "z"
    refine ⟨_, atI_mp ez, ?_⟩
    walk_at "z"
    refine lit11 rfl ?_
    rw [← rx_habit_sums_4]
    walk_at "z"
    rw [enumL_map]
    have t5 : ∀ E : EN, E.nx [.fz (dLand l), .fz (dq q), .fz (.tup (hs.map .int)), .ow 1 (.lst (acc.map dC ++ [dC (unitR x.2 x.1 ++ wOf s z)])), .fz (.int (x.2 : Nat)), .fz (dC x.1), .fz (dSt s), .fz (.int z), .ow 1 (dC (unitR x.2 x.1)), .no, .no] →
        rd_habit_sums_5 [.fz (dLand l), .fz (dq q), .fz (.tup (hs.map .int)), .ow 1 (.lst (acc.map dC)), .fz (.int (x.2 : Nat)), .fz (dC x.1), .fz (dSt s), .fz (.int z), .ow 1 (dC (unitR x.2 x.1)), .no, .no] E := fun E hE => by
      rw [← rx_habit_sums_5]
      have fin2 : ∀ w : List Rat, w.length = l.k → (List.map dq (unitR x.2 x.1)).length + (w.map dq).length ≤ sizeLine := fun w hw => small8 (by rw [List.length_map, List.length_map, unit_len, lo, hw]; omega)
      have e9 : ∀ w : List Rat, D.lst (List.map dq (unitR x.2 x.1) ++ w.map dq) = dC (unitR x.2 x.1 ++ w) := fun w => by unfold dC; rw [List.map_append]
      walk_at "z"
      show way (decide (z < 0)) _ _
      rcases habit_case ho with ⟨z0, e0⟩ | ⟨d, z0, e0, e1⟩
      · have ew : wOf s z = s.e := by unfold wOf; rw [e0]
        rw [ew] at hE
        rw [decide_eq_true z0]
        walk_at "z"
        refine ⟨fin2 _ (hok.st es).len, ?_⟩
        rw [e9]
        walk_at "z"
        exact ⟨fin, hE⟩
      · have ew : wOf s z = d.w := by unfold wOf; rw [e0]
        rw [ew] at hE
        rw [decide_eq_false (by omega)]
        walk_at "z"
        refine ⟨_, atI_map e1, ?_⟩
        walk_at "z"
        refine ⟨fin2 _ (deedOf_ok hok es e0).len, ?_⟩
        rw [e9]
        walk_at "z"
        exact ⟨fin, hE⟩
    refine lcL_map' (g := fun y : Rat × Nat => D.tup [.int (y.2 : Nat), dq y.1]) (f := fun y => dq ((if y.2 = x.2 then 1 else 0) - y.1)) (xs := x.1.zipIdx) (ρw := [.fz (dLand l), .fz (dq q), .fz (.tup (hs.map .int)), .ow 1 (.lst (acc.map dC)), .fz (.int (x.2 : Nat)), .fz (dC x.1), .fz (dSt s), .fz (.int z), .no, .no, .no]) (by rw [List.length_zipIdx]; omega) (fun y hy nn P N2 hnn hP => ?_) rfl fun ρ' hρ => ?_
    · have wy : wt y.1 ≤ 16 := by
        obtain ⟨i, hi⟩ := List.mem_iff_getElem?.mp hy
        rw [List.getElem?_zipIdx] at hi
        cases e : x.1[i]? with
        | none => rw [e] at hi; cases hi
        | some v => rw [e] at hi; cases hi; exact (lw _ (List.mem_of_getElem? e)).2
      have w1 : wt (1 : Rat) ≤ 1 := by decide
      have w0 : wt (0 : Rat) ≤ 1 := by decide
      walk_at "z"
      show way (eqb (.int (y.2 : Nat)) (.int (x.2 : Nat))) _ _
      rw [eqb_int]
      by_cases hk : y.2 = x.2
      · rw [hk, decide_eq_true rfl]
        walk_at "z"
        refine sp_minus.mk (p := 1) (q := y.1) (by omega) ?_
        have hP := hP [Sl.fz (dLand l), .fz (dq q), .fz (.tup (hs.map .int)), .ow 1 (.lst (acc.map dC)), .fz (.int (x.2 : Nat)), .fz (dC x.1), .fz (dSt s), .fz (.int z), .no, .fz (.int (x.2 : Nat)), .fz (dq y.1)] rfl
        rw [if_pos hk] at hP
        exact ⟨_, rfl, hnn, hP⟩
      · rw [decide_eq_false (by omega)]
        walk_at "z"
        refine sp_minus.mk (p := 0) (q := y.1) (by omega) ?_
        have hP := hP [Sl.fz (dLand l), .fz (dq q), .fz (.tup (hs.map .int)), .ow 1 (.lst (acc.map dC)), .fz (.int (x.2 : Nat)), .fz (dC x.1), .fz (dSt s), .fz (.int z), .no, .fz (.int (y.2 : Nat)), .fz (dq y.1)] rfl
        rw [if_neg hk] at hP
        exact ⟨_, rfl, hnn, hP⟩
    · rw [restE_wipe, hρ]
      have eu : (x.1.zipIdx).map (fun y : Rat × Nat => dq ((if y.2 = x.2 then 1 else 0) - y.1)) = (unitR x.2 x.1).map dq := by unfold unitR; rw [List.map_map]; rfl
      rw [eu]
      walk_at "z"
      exact t5 _ ⟨rfl, hN⟩
  · obtain ⟨i, hi⟩ := List.mem_iff_getElem?.mp hx
    have hi1 : i < l.sts.length := by
      have := (List.getElem?_eq_some_iff.mp hi).1
      rw [List.length_zipIdx, hll] at this
      exact this
    have e := List.getElem?_eq_getElem hi1
    obtain ⟨z, ez, ho⟩ := hrow.at e
    rw [List.getElem?_zipIdx] at hi
    unfold leadsM at hi
    rw [List.getElem?_map, zip_at e ez] at hi
    cases hi
    refine ⟨_, z, ?_, ?_, ho, rfl⟩
    · show l.sts[0 + i]? = _
      rw [Nat.zero_add, e]
    · show hs[0 + i]? = _
      rw [Nat.zero_add, ez]
  · rw [← rx_habit_sums_6]
    rw [foldl_app]
    have eM : ((leadsM l q hs).zipIdx 0).map (fun x => unitR x.2 x.1 ++ (match l.sts[x.2]?, hs[x.2]? with | some s, some z => wOf s z | _, _ => [])) = habM l q hs := by
      refine List.ext_getElem? fun i => ?_
      by_cases hi : i < l.sts.length
      · have e := List.getElem?_eq_getElem hi
        obtain ⟨z, ez, ho⟩ := hrow.at e
        rw [habM_row e ez, List.getElem?_map, List.getElem?_zipIdx]
        unfold leadsM
        rw [List.getElem?_map, zip_at e ez]
        show some (unitR (0 + i) _ ++ (match l.sts[0 + i]?, hs[0 + i]? with | some s, some z => wOf s z | _, _ => [])) = _
        rw [Nat.zero_add, e, ez]
      · rw [List.getElem?_eq_none (by rw [List.length_map, List.length_zipIdx, hll]; omega), List.getElem?_eq_none (by rw [habM_len hln]; omega)]
    rw [eM]
    have a := habM_ok hok hq hln
    show rb_habit_sums_6 [.fz (dLand l), .fz (dq q), .fz (.tup (hs.map .int)), .ow 1 (.lst ((habM l q hs).map dC)), .no, .no, .no, .no, .no, .no, .no] _
    walk_at "z"
    refine sp_solved.mk l.sts.length (l.sts.length + l.k) 90 a h8 (by omega) (by omega) (dom_piv a (by omega) (habM_dom hok hq hln)) (by decide) ?_
    walk_at "z"
    refine lcL_map' (g := dC) (f := dw) (xs := solvedM l.sts.length (habM l q hs)) (ρw := [.fz (dLand l), .fz (dq q), .fz (.tup (hs.map .int)), .fz (.lst ((habM l q hs).map dC)), .no, .no, .no, .no, .no, .no, .no]) ?_ (fun y hy nn P N2 hnn hP => ?_) rfl fun ρ' hρ => ?_
    · have := (habS_ok hok hq hln).1
      unfold habS at this
      unfold solvedM
      omega
    · walk_at "z"
      exact ⟨hnn, hP _ rfl⟩
    · rw [restE_wipe, hρ]
      walk_at "z"
      exact h

end VL

set_option maxHeartbeats 2000000
set_option pp.maxSteps 5000
namespace VL
open PySem PySem.Spec PyProof.Rows L2
local macro_rules | `(tactic| walk_at "n") => `(tactic| refine ⟨fun h => Bool.noConfusion (show false = true from h), fun _ => ?_⟩)
local macro_rules | `(tactic| walk_at "ty") => `(tactic| refine ⟨_, rfl, by decide, ?_⟩)
local macro_rules | `(tactic| walk_at "tys") => `(tactic| refine ⟨_, rfl, _, rfl, by decide, ?_⟩)
local macro_rules | `(tactic| walk_at "v") => `(tactic| repeat (first | refine ⟨rfl, ?_⟩ | refine ⟨_, rfl, ?_⟩))
local macro_rules | `(tactic| walk_at "y") => `(tactic| refine ⟨fun _ => ?_, fun h => Bool.noConfusion (show true = false from h)⟩)
local macro_rules | `(tactic| walk_at "z") => `(tactic| repeat (first | refine ⟨rfl, ?_⟩ | refine ⟨_, rfl, ?_⟩ | refine ⟨fun _ => ?_, fun h => Bool.noConfusion (show true = false from h)⟩ | refine ⟨fun h => Bool.noConfusion (show false = true from h), fun _ => ?_⟩ | refine ⟨tyIn rfl, ?_⟩ | refine ⟨tysIn rfl, ?_⟩ | refine ⟨smallL rfl, ?_⟩ | refine ⟨smallE rfl, ?_⟩))
local macro_rules | `(tactic| walk_at "zz") => `(tactic| repeat ((fail_if_success show forL _ _ _ _ _); first | refine ⟨rfl, ?_⟩ | refine ⟨_, rfl, ?_⟩ | refine ⟨fun _ => ?_, fun h => Bool.noConfusion (show true = false from h)⟩ | refine ⟨fun h => Bool.noConfusion (show false = true from h), fun _ => ?_⟩ | refine ⟨tyIn rfl, ?_⟩ | refine ⟨tysIn rfl, ?_⟩ | refine ⟨smallL rfl, ?_⟩ | refine ⟨smallE rfl, ?_⟩))
/-! ### heights without a last step: the best habit by turns -/
theorem qdot_cons {p q : Rat} {ps qs : List Rat} : qdot (p :: ps) (q :: qs) = p * q + qdot ps qs := by
  show qsum (qmuls ps qs) (0 + p * q) = _
  rw [qsum_acc, Rat.zero_add]; rfl
theorem qdot_addr : ∀ {ps a b : List Rat}, a.length = b.length → qdot ps (qadd a b) = qdot ps a + qdot ps b
  | [], _, _, _ => by show (0 : Rat) = 0 + 0; grind
  | _ :: _, [], [], _ => by show (0 : Rat) = 0 + 0; grind
  | _ :: _, [], _ :: _, h => by simp at h
  | _ :: _, _ :: _, [], h => by simp at h
  | p :: ps, x :: a, y :: b, h => by
    show qdot (p :: ps) ((x + y) :: qadd a b) = _
    rw [qdot_cons, qdot_cons, qdot_cons, qdot_addr (by simpa using h)]
    grind
theorem qdot_scale {c : Rat} : ∀ {ps a : List Rat}, qdot ps (qscale a c) = qdot ps a * c
  | [], _ => by show (0 : Rat) = 0 * c; grind
  | _ :: _, [] => by show (0 : Rat) = 0 * c; grind
  | p :: ps, x :: a => by
    show qdot (p :: ps) ((x * c) :: qscale a c) = _
    rw [qdot_cons, qdot_cons, qdot_scale]
    grind
def hgt (q : Rat) (pr : List Rat) (x : Nat → Rat) (s : St) (z : Int) : Rat := qdot pr (wOf s z) + hsum (fun f => q * f.2 * x f.1) (fsOf s z)
def pV (l : Land) (q : Rat) (pr : List Rat) (hs : List Int) : List Rat := (habS l q hs).map (qdot pr)
def xV (l : Land) (q : Rat) (pr : List Rat) (hs : List Int) : Nat → Rat := fun j => (pV l q pr hs).getD j 0
theorem qdot_had {n k : Nat} {q : Rat} {pr : List Rat} {later : List (List Rat)} (hl : ∀ j, j < n → (later.getD j []).length = k) : ∀ (fs : List (Nat × Rat)) (w : List Rat), w.length = k → (∀ f ∈ fs, f.1 < n) → qdot pr (hadQ q fs w later) = qdot pr w + hsum (fun f => q * f.2 * qdot pr (later.getD f.1 [])) fs
  | [], w, _, _ => by show qdot pr w = qdot pr w + 0; grind
  | f :: fs, w, h, hf => by
    have h1 := hl f.1 (hf f (by simp))
    have h2 : (qscale (later.getD f.1 []) (q * f.2)).length = k := by unfold qscale; rw [List.length_map, h1]
    obtain ⟨a, _⟩ := qadd_getD h h2
    have := qdot_had (q := q) (pr := pr) hl fs _ a fun g hg => hf g (List.mem_cons_of_mem _ hg)
    show qdot pr (hadQ q fs (qadd w (qscale (later.getD f.1 []) (q * f.2))) later) = qdot pr w + (q * f.2 * qdot pr (later.getD f.1 []) + hsum _ fs)
    rw [this, qdot_addr (by rw [h, h2]), qdot_scale]
    grind
theorem fs_lt {l : Land} {s : St} {i : Nat} (hl : LandOk l) (e : l.sts[i]? = some s) (z : Int) : ∀ f ∈ fsOf s z, f.1 < l.sts.length ∧ 0 < f.2 ∧ wt f.2 ≤ 6 := fun f hf => by
  rcases fsOf_ok (z := z) hl e with g | g
  · rw [g] at hf; cases hf
  · exact ⟨g.lt f hf, g.pos f hf, g.wt f hf⟩
section
variable {l : Land} {q : Rat} {pr : List Rat} {hs : List Int} {i : Nat} {s : St} {z : Int}
theorem pV_len (hl : LandOk l) (hq : Shr q) (h : hs.length = l.sts.length) : (pV l q pr hs).length = l.sts.length := by
  unfold pV; rw [List.length_map]; exact (habS_ok hl hq h).1
theorem xV_at (hl : LandOk l) (hq : Shr q) (h : hs.length = l.sts.length) {j : Nat} (hj : j < l.sts.length) : xV l q pr hs j = qdot pr ((habS l q hs).getD j []) := by
  have hj' : j < (habS l q hs).length := by rw [(habS_ok hl hq h).1]; exact hj
  unfold xV pV
  rw [List.getD_eq_getElem?_getD, List.getElem?_map, List.getD_eq_getElem?_getD, List.getElem?_eq_getElem hj']
  rfl
theorem xV_due (hl : LandOk l) (hq : Shr q) (h : hs.length = l.sts.length) (e : l.sts[i]? = some s) (e2 : hs[i]? = some z) : xV l q pr hs i = hgt q pr (xV l q pr hs) s z := by
  have hi : i < l.sts.length := (List.getElem?_eq_some_iff.mp e).1
  have w := habS_ok hl hq h
  have wl : ∀ j, j < l.sts.length → ((habS l q hs).getD j []).length = l.k := fun j hj => by
    have hj' : j < (habS l q hs).length := by rw [w.1]; exact hj
    rw [List.getD_eq_getElem?_getD, List.getElem?_eq_getElem hj']
    exact (w.2 _ (List.getElem_mem hj')).1
  rw [xV_at hl hq h hi, habS_due hl hq h e e2, qdot_had wl _ _ (wOf_ok hl e).1 fun f hf => (fs_lt hl e z f hf).1]
  unfold hgt
  congr 1
  exact hsum_congr fun f hf => by rw [xV_at hl hq h (fs_lt hl e z f hf).1]
end
theorem min_ex (z : Nat → Rat) : ∀ n, 0 < n → ∃ m, m < n ∧ ∀ i, i < n → z m ≤ z i
  | 0, h => absurd h (by omega)
  | 1, _ => ⟨0, by decide, fun i hi => by rw [show i = 0 by omega]; grind⟩
  | n + 2, _ => by
    obtain ⟨m, hm, h⟩ := min_ex z (n + 1) (by omega)
    by_cases c : z m ≤ z (n + 1)
    · exact ⟨m, by omega, fun i hi => by
        by_cases e : i = n + 1
        · rw [e]; exact c
        · exact h i (by omega)⟩
    · exact ⟨n + 1, by omega, fun i hi => by
        by_cases e : i = n + 1
        · rw [e]; grind
        · have := h i (by omega); grind⟩
theorem hs_ge {q m : Rat} {z : Nat → Rat} (q0 : 0 < q) : ∀ {fs : List (Nat × Rat)}, (∀ f ∈ fs, 0 < f.2 ∧ m ≤ z f.1) → q * m * hsum (·.2) fs ≤ hsum (fun f => q * f.2 * z f.1) fs
  | [], _ => by show q * m * 0 ≤ 0; grind
  | f :: fs, h => by
    have a := hs_ge q0 fun g hg => h g (List.mem_cons_of_mem _ hg)
    obtain ⟨b, c⟩ := h f (by simp)
    show q * m * (f.2 + hsum (·.2) fs) ≤ q * f.2 * z f.1 + hsum _ fs
    have d : 0 ≤ q * f.2 * (z f.1 - m) := Rat.mul_nonneg (Rat.mul_nonneg (by grind) (by grind)) (by grind)
    grind
theorem minp {l : Land} {q : Rat} {hs : List Int} (hl : LandOk l) (hq : Shr q) (hr : hs.length = l.sts.length) {z : Nat → Rat} (h : ∀ i s w, l.sts[i]? = some s → hs[i]? = some w → hsum (fun f => q * f.2 * z f.1) (fsOf s w) ≤ z i) : ∀ i, i < l.sts.length → 0 ≤ z i := by
  obtain ⟨m, hm, hz⟩ := min_ex z l.sts.length hl.n1
  have key : 0 ≤ z m := by
    obtain ⟨s, w, e1, e2⟩ := row_at hr hm
    have a := h m s w e1 e2
    have b := hs_ge (m := z m) (z := z) hq.pos fun f hf => ⟨(fs_lt hl e1 w f hf).2.1, hz f.1 (fs_lt hl e1 w f hf).1⟩
    have q0 := hq.pos
    have q1 := hq.lt
    have c : hsum (·.2) (fsOf s w) = 0 ∨ hsum (·.2) (fsOf s w) = 1 := by
      rcases fsOf_ok (z := w) hl e1 with g | g
      · rw [g]; exact .inl rfl
      · have := hsum_qsum (fsOf s w) 0
        rw [g.sum] at this
        exact .inr (by grind)
    rcases c with c | c
    · rw [c] at b; grind
    · rw [c] at b
      by_cases n : 0 ≤ z m
      · exact n
      · have : 0 < (1 - q) * (-z m) := Rat.mul_pos (by grind) (by grind)
        grind
  exact fun i hi => by have := hz i hi; grind
theorem hsum_sub {q : Rat} {x y : Nat → Rat} : ∀ fs, hsum (fun f => q * f.2 * x f.1) fs - hsum (fun f => q * f.2 * y f.1) fs = hsum (fun f => q * f.2 * (x f.1 - y f.1)) fs
  | [] => by show (0 : Rat) - 0 = 0; grind
  | f :: fs => by
    have := hsum_sub (q := q) (x := x) (y := y) fs
    show q * f.2 * x f.1 + hsum _ fs - (q * f.2 * y f.1 + hsum _ fs) = q * f.2 * (x f.1 - y f.1) + hsum _ fs
    grind
theorem hgt_sub {q : Rat} {pr : List Rat} {x y : Nat → Rat} {s : St} {w : Int} : hgt q pr x s w - hgt q pr y s w = hsum (fun f => q * f.2 * (x f.1 - y f.1)) (fsOf s w) := by
  rw [← hsum_sub]
  unfold hgt; grind
section
variable {l : Land} {q : Rat} {pr : List Rat} {hs : List Int}
theorem xV_le (hl : LandOk l) (hq : Shr q) (hr : hs.length = l.sts.length) {x : Nat → Rat} (h : ∀ i s w, l.sts[i]? = some s → hs[i]? = some w → hgt q pr x s w ≤ x i) : ∀ i, i < l.sts.length → xV l q pr hs i ≤ x i := fun i hi => by
  have := minp hl hq hr (z := fun j => x j - xV l q pr hs j) (fun i s w e1 e2 => by
    have a := h i s w e1 e2
    have b := xV_due (pr := pr) hl hq hr e1 e2
    have c := hgt_sub (q := q) (pr := pr) (x := x) (y := xV l q pr hs) (s := s) (w := w)
    rw [← c]; grind) i hi
  have this : 0 ≤ x i - xV l q pr hs i := this
  grind
theorem xV_ge (hl : LandOk l) (hq : Shr q) (hr : hs.length = l.sts.length) {x : Nat → Rat} (h : ∀ i s w, l.sts[i]? = some s → hs[i]? = some w → x i ≤ hgt q pr x s w) : ∀ i, i < l.sts.length → x i ≤ xV l q pr hs i := fun i hi => by
  have := minp hl hq hr (z := fun j => xV l q pr hs j - x j) (fun i s w e1 e2 => by
    have a := h i s w e1 e2
    have b := xV_due (pr := pr) hl hq hr e1 e2
    have c := hgt_sub (q := q) (pr := pr) (x := xV l q pr hs) (y := x) (s := s) (w := w)
    rw [← c]; grind) i hi
  have this : 0 ≤ xV l q pr hs i - x i := this
  grind
end
theorem hgt_mono {l : Land} {q : Rat} {pr : List Rat} {x y : Nat → Rat} {s : St} {i : Nat} (hl : LandOk l) (hq : Shr q) (e : l.sts[i]? = some s) (h : ∀ j, j < l.sts.length → x j ≤ y j) (w : Int) : hgt q pr x s w ≤ hgt q pr y s w := by
  have c := hgt_sub (q := q) (pr := pr) (x := y) (y := x) (s := s) (w := w)
  have := hs_ge (m := 0) (z := fun j => y j - x j) hq.pos (fs := fsOf s w) fun f hf => ⟨(fs_lt hl e w f hf).2.1, by have := h f.1 (fs_lt hl e w f hf).1; show 0 ≤ y f.1 - x f.1; grind⟩
  have e2 : q * 0 * hsum (·.2) (fsOf s w) = 0 := by grind
  rw [e2] at this
  have this : 0 ≤ hsum (fun f => q * f.2 * (y f.1 - x f.1)) (fsOf s w) := this
  grind
/-! ### a round -/
def bstS (q : Rat) (pr : List Rat) (x : Nat → Rat) (s : St) (os : List Nat) (z : Int) : Int := os.foldl (fun (b : Int) (o : Nat) => if hgt q pr x s b < hgt q pr x s (o : Int) then (o : Int) else b) z
theorem bstS_ok {q : Rat} {pr : List Rat} {x : Nat → Rat} {s : St} : ∀ (os : List Nat) (z : Int), (bstS q pr x s os z = z ∨ ∃ o ∈ os, bstS q pr x s os z = (o : Int)) ∧ hgt q pr x s z ≤ hgt q pr x s (bstS q pr x s os z) ∧ (bstS q pr x s os z ≠ z → hgt q pr x s z < hgt q pr x s (bstS q pr x s os z)) ∧ ∀ o ∈ os, hgt q pr x s (o : Int) ≤ hgt q pr x s (bstS q pr x s os z)
  | [], z => ⟨.inl rfl, by show hgt q pr x s z ≤ hgt q pr x s z; grind, fun h => absurd rfl h, fun o ho => absurd ho List.not_mem_nil⟩
  | o :: os, z => by
    by_cases c : hgt q pr x s z < hgt q pr x s (o : Int)
    · have e : bstS q pr x s (o :: os) z = bstS q pr x s os (o : Int) := by
        unfold bstS; rw [List.foldl_cons, if_pos c]
      obtain ⟨a1, a2, a3, a4⟩ := bstS_ok (q := q) (pr := pr) (x := x) (s := s) os (o : Int)
      rw [e]
      refine ⟨.inr ?_, by grind, fun _ => by grind, fun p hp => ?_⟩
      · rcases a1 with a1 | ⟨p, hp, a1⟩
        · exact ⟨o, by simp, a1⟩
        · exact ⟨p, List.mem_cons_of_mem _ hp, a1⟩
      · rcases List.mem_cons.mp hp with rfl | hp
        · exact a2
        · exact a4 p hp
    · have e : bstS q pr x s (o :: os) z = bstS q pr x s os z := by
        unfold bstS; rw [List.foldl_cons, if_neg c]
      obtain ⟨a1, a2, a3, a4⟩ := bstS_ok (q := q) (pr := pr) (x := x) (s := s) os z
      rw [e]
      refine ⟨a1.imp id fun ⟨p, hp, a1⟩ => ⟨p, List.mem_cons_of_mem _ hp, a1⟩, a2, a3, fun p hp => ?_⟩
      rcases List.mem_cons.mp hp with rfl | hp
      · grind
      · exact a4 p hp
def better (l : Land) (q : Rat) (pr : List Rat) (x : Nat → Rat) (hs : List Int) : List Int := (l.sts.zip hs).map fun y => bstS q pr x y.1 (List.range y.1.ds.length) y.2
theorem okHs_of : ∀ {row : List Int} {ss : List St}, row.length = ss.length → (∀ (i : Nat) s z, ss[i]? = some s → row[i]? = some z → okH (.int z) s = true) → okHs (row.map .int) ss = true
  | [], [], _, _ => rfl
  | [], _ :: _, h, _ => by simp at h
  | _ :: _, [], h, _ => by simp at h
  | r :: row, s :: ss, h, k => by
    show (okH (.int r) s && okHs (row.map .int) ss) = true
    rw [k 0 s r rfl rfl, okHs_of (by simpa using h) fun i t z e1 e2 => k (i + 1) t z e1 e2]; rfl
theorem row_of {l : Land} {row : List Int} (hl : LandOk l) (h1 : row.length = l.sts.length) (h2 : ∀ (i : Nat) s z, l.sts[i]? = some s → row[i]? = some z → okH (.int z) s = true) : RowOk l row := by
  refine ⟨h1, fun z hz => ?_, okHs_of h1 h2⟩
  obtain ⟨i, hi, rfl⟩ := List.getElem_of_mem hz
  have e : l.sts[i]? = some l.sts[i] := List.getElem?_eq_getElem (by omega)
  have o := h2 i _ _ e (List.getElem?_eq_getElem hi)
  have few := (hl.st e).few
  have o' : (if l.sts[i].ds.isEmpty then decide (row[i] = -1) else decide (0 ≤ row[i]) && decide (row[i] < l.sts[i].ds.length)) = true := o
  cases he : l.sts[i].ds.isEmpty with
  | true =>
    rw [he, if_pos rfl] at o'
    have := of_decide_eq_true o'
    omega
  | false =>
    rw [he, if_neg (by decide), Bool.and_eq_true] at o'
    have := of_decide_eq_true o'.1
    have := of_decide_eq_true o'.2
    omega
section
variable {l : Land} {q : Rat} {pr : List Rat} {hs : List Int} {x : Nat → Rat}
theorem better_len (h : hs.length = l.sts.length) : (better l q pr x hs).length = l.sts.length := by
  unfold better; rw [List.length_map, List.length_zip]; omega
theorem better_at {i : Nat} {s : St} {z : Int} (e : l.sts[i]? = some s) (e2 : hs[i]? = some z) : (better l q pr x hs)[i]? = some (bstS q pr x s (List.range s.ds.length) z) := by
  unfold better
  rw [List.getElem?_map, zip_at e e2]; rfl
theorem better_ok (hl : LandOk l) (h : RowOk l hs) : RowOk l (better l q pr x hs) := by
  refine row_of hl (better_len h.1) fun i s z e e2 => ?_
  obtain ⟨w, ew, ow⟩ := h.at e
  rw [better_at e ew] at e2
  cases e2
  rcases (bstS_ok (q := q) (pr := pr) (x := x) (s := s) (List.range s.ds.length) w).1 with r | ⟨o, ho, r⟩
  · rw [r]; exact ow
  · rw [r]
    have ho := List.mem_range.mp ho
    show (if s.ds.isEmpty then decide ((o : Int) = -1) else decide (0 ≤ (o : Int)) && decide ((o : Int) < s.ds.length)) = true
    have : s.ds.isEmpty = false := by
      cases hd : s.ds with
      | nil => rw [hd] at ho; simp at ho
      | cons _ _ => rfl
    rw [this, if_neg (by decide), decide_eq_true (by omega), decide_eq_true (by omega)]; rfl
end
theorem sumN_lt {x y : Nat → Rat} : ∀ {n : Nat}, (∀ i, i < n → x i ≤ y i) → (sumN n x ≤ sumN n y) ∧ ((∃ i, i < n ∧ x i < y i) → sumN n x < sumN n y)
  | 0, _ => ⟨by show (0 : Rat) ≤ 0; grind, fun ⟨i, hi, _⟩ => absurd hi (by omega)⟩
  | n + 1, h => by
    obtain ⟨a, b⟩ := sumN_lt (n := n) fun i hi => h i (by omega)
    have c := h n (by omega)
    refine ⟨by show sumN n x + x n ≤ sumN n y + y n; grind, fun ⟨i, hi, e⟩ => ?_⟩
    show sumN n x + x n < sumN n y + y n
    by_cases k : i = n
    · rw [k] at e; grind
    · have := b ⟨i, by omega, e⟩; grind
/-- a round that changes the habit gains -/
theorem round_gains {l : Land} {q : Rat} {pr : List Rat} {hs : List Int} (hl : LandOk l) (hq : Shr q) (h : RowOk l hs) (hne : better l q pr (xV l q pr hs) hs ≠ hs) : sumN l.sts.length (xV l q pr hs) < sumN l.sts.length (xV l q pr (better l q pr (xV l q pr hs) hs)) := by
  have bl := better_len (q := q) (pr := pr) (x := xV l q pr hs) h.1
  have ge : ∀ i, i < l.sts.length → xV l q pr hs i ≤ xV l q pr (better l q pr (xV l q pr hs) hs) i := xV_ge hl hq bl fun i s w e1 e2 => by
    obtain ⟨z, ez, _⟩ := h.at e1
    rw [better_at e1 ez] at e2
    cases e2
    have := (bstS_ok (q := q) (pr := pr) (x := xV l q pr hs) (s := s) (List.range s.ds.length) z).2.1
    rw [xV_due hl hq h.1 e1 ez]
    exact this
  refine (sumN_lt ge).2 ?_
  have : ∃ i, (better l q pr (xV l q pr hs) hs)[i]? ≠ hs[i]? := Classical.byContradiction fun z => hne (List.ext_getElem? fun i => Classical.byContradiction fun y => z ⟨i, y⟩)
  obtain ⟨i, hi⟩ := this
  have hlt : i < l.sts.length := by
    rcases Nat.lt_or_ge i l.sts.length with k | k
    · exact k
    · exact absurd (by rw [List.getElem?_eq_none (by omega), List.getElem?_eq_none (by rw [h.1]; exact k)]) hi
  obtain ⟨s, z, e1, e2⟩ := row_at h.1 hlt
  have eb := better_at (q := q) (pr := pr) (x := xV l q pr hs) e1 e2
  rw [eb, e2] at hi
  have lt := (bstS_ok (q := q) (pr := pr) (x := xV l q pr hs) (s := s) (List.range s.ds.length) z).2.2.1 (fun k => hi (by rw [k]))
  refine ⟨i, hlt, ?_⟩
  have a := xV_due (pr := pr) hl hq h.1 e1 e2
  have b := xV_due (pr := pr) hl hq bl e1 eb
  have c := hgt_mono (pr := pr) hl hq e1 ge (bstS q pr (xV l q pr hs) s (List.range s.ds.length) z)
  generalize xV l q pr (better l q pr (xV l q pr hs) hs) = y at *
  grind
/-! ### the rounds end -/
def allH : List St → List (List Int)
  | [] => [[]]
  | s :: ss => (-1 :: (List.range s.ds.length).map fun (k : Nat) => (k : Int)).flatMap fun z => (allH ss).map (z :: ·)
theorem mem_allH : ∀ {row : List Int} {ss : List St}, okHs (row.map .int) ss = true → row ∈ allH ss
  | [], [], _ => by simp [allH]
  | [], _ :: _, h => by cases h
  | _ :: _, [], h => by cases h
  | r :: row, s :: ss, h => by
    have h' : (okH (.int r) s && okHs (row.map .int) ss) = true := h
    rw [Bool.and_eq_true] at h'
    have a := mem_allH h'.2
    unfold allH
    refine List.mem_flatMap.mpr ⟨r, ?_, List.mem_map.mpr ⟨row, a, rfl⟩⟩
    have o : (if s.ds.isEmpty then decide (r = -1) else decide (0 ≤ r) && decide (r < s.ds.length)) = true := h'.1
    cases he : s.ds.isEmpty with
    | true =>
      rw [he, if_pos rfl] at o
      rw [of_decide_eq_true o]; simp
    | false =>
      rw [he, if_neg (by decide), Bool.and_eq_true] at o
      have o1 := of_decide_eq_true o.1
      have o2 := of_decide_eq_true o.2
      refine List.mem_cons_of_mem _ (List.mem_map.mpr ⟨r.toNat, List.mem_range.mpr (by omega), ?_⟩)
      omega
theorem filter_lt {α : Type} (p r : α → Bool) (h : ∀ a, p a = true → r a = true) : ∀ {xs : List α}, (xs.filter p).length ≤ (xs.filter r).length ∧ ((∃ a ∈ xs, r a = true ∧ p a = false) → (xs.filter p).length < (xs.filter r).length)
  | [] => ⟨Nat.le_refl _, fun ⟨_, ha, _⟩ => absurd ha List.not_mem_nil⟩
  | x :: xs => by
    obtain ⟨a, b⟩ := filter_lt p r h (xs := xs)
    rw [List.filter_cons, List.filter_cons]
    cases hp : p x with
    | true =>
      rw [h x hp, if_pos rfl, if_pos rfl]
      refine ⟨by simp only [List.length_cons]; omega, fun ⟨c, hc, c1, c2⟩ => ?_⟩
      have : c ∈ xs := by
        rcases List.mem_cons.mp hc with rfl | hc
        · rw [hp] at c2; cases c2
        · exact hc
      have := b ⟨c, this, c1, c2⟩
      simp only [List.length_cons]; omega
    | false =>
      rw [if_neg (by decide)]
      cases hr : r x with
      | true =>
        rw [if_pos rfl]
        exact ⟨by simp only [List.length_cons]; omega, fun _ => by simp only [List.length_cons]; omega⟩
      | false =>
        rw [if_neg (by decide)]
        refine ⟨a, fun ⟨c, hc, c1, c2⟩ => b ⟨c, ?_, c1, c2⟩⟩
        rcases List.mem_cons.mp hc with rfl | hc
        · rw [hr] at c1; cases c1
        · exact hc
noncomputable def meas (l : Land) (q : Rat) (pr : List Rat) (hs : List Int) : Nat := ((allH l.sts).filter fun h => decide (sumN l.sts.length (xV l q pr hs) < sumN l.sts.length (xV l q pr h))).length
theorem meas_lt {l : Land} {q : Rat} {pr : List Rat} {hs : List Int} (hl : LandOk l) (hq : Shr q) (h : RowOk l hs) (hne : better l q pr (xV l q pr hs) hs ≠ hs) : meas l q pr (better l q pr (xV l q pr hs) hs) < meas l q pr hs := by
  have g := round_gains hl hq h hne
  have o := better_ok (q := q) (pr := pr) (x := xV l q pr hs) hl h
  generalize better l q pr (xV l q pr hs) hs = hs' at *
  refine (filter_lt _ _ fun a ha => ?_).2 ⟨hs', mem_allH o.2.2, decide_eq_true g, decide_eq_false (by grind)⟩
  have ha := of_decide_eq_true ha
  exact decide_eq_true (by grind)
/-- a habit that no state betters -/
structure BestH (l : Land) (q : Rat) (pr : List Rat) (hs : List Int) : Prop where
  row : RowOk l hs
  top : ∀ i s (o : Nat), l.sts[i]? = some s → o < s.ds.length → hgt q pr (xV l q pr hs) s (o : Int) ≤ xV l q pr hs i
theorem best_of {l : Land} {q : Rat} {pr : List Rat} {hs : List Int} (hl : LandOk l) (hq : Shr q) (h : RowOk l hs) (e : better l q pr (xV l q pr hs) hs = hs) : BestH l q pr hs := by
  refine ⟨h, fun i s o e1 ho => ?_⟩
  obtain ⟨z, ez, _⟩ := h.at e1
  have b := better_at (q := q) (pr := pr) (x := xV l q pr hs) e1 ez
  rw [e, ez] at b
  have b := Option.some.inj b
  have := (bstS_ok (q := q) (pr := pr) (x := xV l q pr hs) (s := s) (List.range s.ds.length) z).2.2.2 o (List.mem_range.mpr ho)
  rw [← b] at this
  rw [xV_due hl hq h.1 e1 ez]
  exact this
theorem okH_cases {z : Int} {s : St} (h : okH (.int z) s = true) : (s.ds = [] ∧ z = -1) ∨ ∃ o : Nat, z = (o : Int) ∧ o < s.ds.length := by
  have o : (if s.ds.isEmpty then decide (z = -1) else decide (0 ≤ z) && decide (z < s.ds.length)) = true := h
  cases he : s.ds.isEmpty with
  | true =>
    rw [he, if_pos rfl] at o
    exact .inl ⟨List.isEmpty_iff.mp he, of_decide_eq_true o⟩
  | false =>
    rw [he, if_neg (by decide), Bool.and_eq_true] at o
    have o1 := of_decide_eq_true o.1
    have o2 := of_decide_eq_true o.2
    exact .inr ⟨z.toNat, by omega, by omega⟩
/-- no habit has more -/
theorem best_ge {l : Land} {q : Rat} {pr : List Rat} {hs ks : List Int} (hl : LandOk l) (hq : Shr q) (h : BestH l q pr hs) (hk : RowOk l ks) : ∀ i, i < l.sts.length → xV l q pr ks i ≤ xV l q pr hs i := xV_le hl hq hk.1 fun i s w e1 e2 => by
  obtain ⟨z, ez, oz⟩ := hk.at e1
  rw [e2] at ez
  cases ez
  rcases okH_cases oz with ⟨hd, rfl⟩ | ⟨o, rfl, ho⟩
  · obtain ⟨z, ez, oz⟩ := h.row.at e1
    rcases okH_cases oz with ⟨_, rfl⟩ | ⟨o, rfl, ho⟩
    · have := xV_due (pr := pr) hl hq h.row.1 e1 ez
      grind
    · rw [hd] at ho; simp at ho
  · exact h.top i s o e1 ho
theorem best_same {l : Land} {q : Rat} {pr : List Rat} {hs ks : List Int} (hl : LandOk l) (hq : Shr q) (h : BestH l q pr hs) (hk : BestH l q pr ks) : pV l q pr ks = pV l q pr hs := by
  have l1 := pV_len (pr := pr) hl hq h.row.1
  have l2 := pV_len (pr := pr) hl hq hk.row.1
  refine List.ext_getElem (by omega) fun i i1 i2 => ?_
  have a := best_ge hl hq h hk.row i (by omega)
  have b := best_ge hl hq hk h.row i (by omega)
  unfold xV at a b
  have c1 := gd_at i1
  have c2 := gd_at i2
  rw [List.getElem?_eq_getElem i1] at c1
  rw [List.getElem?_eq_getElem i2] at c2
  rw [Option.some.inj c1, Option.some.inj c2]
  grind

/-! ### how long the heights are -/
def WtB (n m W V : Nat) (M : List (List Rat)) : Prop := ∀ i j, i < n → j < m → wt (en M i j) ≤ if j < n then W else V
theorem wtb_sweep {n m W0 W V : Nat} {M : List (List Rat)} (h : MOk n m W0 M) {p : Nat} (hp : p < n) (hm : n ≤ m) (hd : en M p p ≠ 0) (b : WtB n m W V M) : WtB n m (4 * W + 1) (2 * V + 2 * W + 1) (sweepM M p) := by
  intro i j hi hj
  rw [en_sweep h hp hi hj]
  have d := b p p hp (by omega)
  rw [if_pos hp] at d
  have e1 := b p j hp hj
  have e2 := b i j hi hj
  have e3 := b i p hi (by omega)
  rw [if_pos hp] at e3
  have q := wt_div (en M p j) (en M p p) hd
  by_cases c : j < n
  · rw [if_pos c] at e1 e2 ⊢
    split
    · omega
    · have x := wt_mul (en M i p) (en M p j / en M p p)
      have y := wt_sub (en M i j) (en M i p * (en M p j / en M p p))
      omega
  · rw [if_neg c] at e1 e2 ⊢
    split
    · omega
    · have x := wt_mul (en M i p) (en M p j / en M p p)
      have y := wt_sub (en M i j) (en M i p * (en M p j / en M p p))
      omega
def Vg (W V : Nat) : Nat → Nat
  | 0 => V
  | p + 1 => 2 * Vg W V p + 2 * Wg W p + 1
theorem wtb_all {n m W0 W V : Nat} {M : List (List Rat)} (h : MOk n m W0 M) (hm : n ≤ m) (hv : Piv n M) (b : WtB n m W V M) : ∀ p, p ≤ n → WtB n m (Wg W p) (Vg W V p) (swAll M p)
  | 0, _ => b
  | p + 1, hp => by
    have a := (all_ok h hm hv p (by omega)).1
    exact wtb_sweep a (by omega) hm (hv p (by omega)) (wtb_all h hm hv b p (by omega))
theorem Vg_le : ∀ p, Vg 18 90 p ≤ 19 * 4 ^ p + 90 * 2 ^ p
  | 0 => by decide
  | p + 1 => by
    have a := Vg_le p
    have b := Wg_le 18 p
    show 2 * Vg 18 90 p + 2 * Wg 18 p + 1 ≤ _
    rw [Nat.pow_succ, Nat.pow_succ]
    omega
theorem habS_wt {l : Land} {q : Rat} {hs : List Int} (hl : LandOk l) (hq : Shr q) (h : hs.length = l.sts.length) : WOk l.sts.length l.k 1270000 (habS l q hs) := by
  have a := habM_ok hl hq h
  have pv := dom_piv a (by omega) (habM_dom hl hq h)
  have b := (all_ok a (by omega) pv l.sts.length (Nat.le_refl _)).1
  have n8 := hl.n8
  have base : WtB l.sts.length (l.sts.length + l.k) 18 90 (habM l q hs) := fun i j hi hj => by
    obtain ⟨s, z, e1, e2⟩ := row_at h hi
    by_cases c : j < l.sts.length
    · rw [if_pos c, habM_en hl hq e1 e2 c]
      have x := allw_at (fun r hr => ((lead_ok (z := z) hl hq e1).2 r hr).2) (show j < (leadSt l.sts.length q s z).length by rw [(lead_ok hl hq e1).1]; exact c)
      have y := wt_sub (if j = i then 1 else 0) ((leadSt l.sts.length q s z).getD j 0)
      have u : wt (if j = i then 1 else (0 : Rat)) ≤ 1 := by split <;> decide +kernel
      omega
    · rw [if_neg c]
      obtain ⟨k, rfl⟩ : ∃ k, j = l.sts.length + k := ⟨j - l.sts.length, by omega⟩
      rw [habM_rhs hl hq e1 e2]
      obtain ⟨w1, w2⟩ := wOf_ok (z := z) hl e1
      exact allw_at w2 (by omega)
  have w := wtb_all a (by omega) pv base l.sts.length (Nat.le_refl _)
  refine ⟨by unfold habS; rw [List.length_map]; exact b.1, fun r hr => ?_⟩
  obtain ⟨i, hi, rfl⟩ := List.getElem_of_mem hr
  have hi' : i < l.sts.length := by
    have := (habS_ok hl hq h).1
    omega
  have lr := ((habS_ok hl hq h).2 _ hr).1
  refine ⟨lr, fun x hx => ?_⟩
  obtain ⟨c, hc, rfl⟩ := List.getElem_of_mem hx
  have e := habS_at hl hq h (c := c) hi'
  have g : (habS l q hs).getD i [] = (habS l q hs)[i] := by rw [List.getD_eq_getElem?_getD, List.getElem?_eq_getElem hi]; rfl
  rw [g] at e
  have g2 := gd_at hc
  rw [List.getElem?_eq_getElem hc] at g2
  rw [Option.some.inj g2, e]
  have y := w i (l.sts.length + c) hi' (by omega)
  rw [if_neg (by omega)] at y
  have v := Vg_le l.sts.length
  have v1 := Nat.pow_le_pow_right (show 1 ≤ 4 by decide) n8
  have v2 := Nat.pow_le_pow_right (show 1 ≤ 2 by decide) n8
  omega
theorem wt_qdot {n : Nat} {ps qs : List Rat} (h1 : allw n ps) (h2 : allw n qs) : wt (qdot ps qs) ≤ 1 + ps.length * (2 * n + 1) := by
  have a := wt_qsum (qmuls ps qs) 0
  have b := Nat.le_trans (wsum_le (allw_qmuls h1 h2)) (Nat.mul_le_mul_right _ (len_qmuls ps qs))
  have c : wt (0 : Rat) ≤ 1 := by decide
  unfold qdot
  omega
theorem pV_wt {l : Land} {q : Rat} {pr : List Rat} {hs : List Int} (hl : LandOk l) (hq : Shr q) (h : hs.length = l.sts.length) (hp : pr.length = l.k ∧ allw 21 pr) : allw 10200000 (pV l q pr hs) := fun x hx => by
  obtain ⟨w, hw, rfl⟩ := List.mem_map.mp hx
  obtain ⟨w1, w2⟩ := (habS_wt hl hq h).2 w hw
  have e := wt_qdot (allw_le hp.2 (show 21 ≤ 1270000 by decide)) w2
  rw [hp.1] at e
  have k4 := hl.k4
  have := Nat.mul_le_mul_right (2 * 1270000 + 1) k4
  omega

/-! ### read: rounds -/
def hgtD (q : Rat) (pr x : List Rat) (d : Deed) : Rat := qdot pr d.w + hsum (fun f => q * f.2 * x.getD f.1 0) d.fs
theorem hsum_fold (g : Nat × Rat → Rat) : ∀ (fs : List (Nat × Rat)) (a : Rat), fs.foldl (fun t x => t + g x) a = a + hsum g fs
  | [], a => by show a = a + 0; grind
  | f :: fs, a => by
    rw [List.foldl_cons, hsum_fold g fs]
    show a + g f + hsum g fs = a + (g f + hsum g fs)
    grind
theorem hgtD_at {q : Rat} {pr x : List Rat} {s : St} {o : Nat} {d : Deed} (e : s.ds[o]? = some d) : hgt q pr (fun j => x.getD j 0) s (o : Int) = hgtD q pr x d := by
  have : deedOf s (o : Int) = some d := by
    unfold deedOf
    rw [if_neg (by omega), Int.toNat_natCast]; exact e
  unfold hgt wOf fsOf
  rw [this]; rfl
def PrL (l : Land) (pr : List Rat) : Prop := pr.length = l.k ∧ allw 21 pr
@[irreducible] def sp_deed_height : ASp := fun ds R => ∃ (l : Land) (q : Rat) (pr x : List Rat) (d : Deed), ds = [dq q, dw pr, dDeed d, dC x] ∧ LandOk l ∧ Shr q ∧ PrL l pr ∧ DeedOk l.k l.sts.length d ∧ x.length = l.sts.length ∧ allw 10200000 x ∧ R (dq (hgtD q pr x d)) 0 []
theorem sp_deed_height.mk {q : Rat} {pr x : List Rat} {d : Deed} {R : RR} (l : Land) (h1 : LandOk l) (h2 : Shr q) (h3 : PrL l pr) (h4 : DeedOk l.k l.sts.length d) (h5 : x.length = l.sts.length) (h6 : allw 10200000 x) (h : R (dq (hgtD q pr x d)) 0 []) : sp_deed_height [dq q, dw pr, dDeed d, dC x] R := by unfold sp_deed_height; exact ⟨l, q, pr, x, d, rfl, h1, h2, h3, h4, h5, h6, h⟩
def fstH (l : Land) : List Int := l.sts.map fun s => if s.ds.isEmpty then -1 else 0
@[irreducible] def sp_first_habit : ASp := fun ds R => ∃ l : Land, ds = [dLand l] ∧ LandOk l ∧ R (.tup ((fstH l).map .int)) 0 []
theorem sp_first_habit.mk {l : Land} {R : RR} (h1 : LandOk l) (h : R (.tup ((fstH l).map .int)) 0 []) : sp_first_habit [dLand l] R := by unfold sp_first_habit; exact ⟨l, rfl, h1, h⟩
@[irreducible] def sp_bettered : ASp := fun ds R => ∃ (l : Land) (q : Rat) (pr x : List Rat) (hs : List Int), ds = [dLand l, dq q, dw pr, .tup (hs.map .int), dC x] ∧ LandOk l ∧ Shr q ∧ PrL l pr ∧ RowOk l hs ∧ x.length = l.sts.length ∧ allw 10200000 x ∧ R (.tup ((better l q pr (fun j => x.getD j 0) hs).map .int)) 0 []
theorem sp_bettered.mk {l : Land} {q : Rat} {pr x : List Rat} {hs : List Int} {R : RR} (h1 : LandOk l) (h2 : Shr q) (h3 : PrL l pr) (h4 : RowOk l hs) (h5 : x.length = l.sts.length) (h6 : allw 10200000 x) (h : R (.tup ((better l q pr (fun j => x.getD j 0) hs).map .int)) 0 []) : sp_bettered [dLand l, dq q, dw pr, .tup (hs.map .int), dC x] R := by unfold sp_bettered; exact ⟨l, q, pr, x, hs, rfl, h1, h2, h3, h4, h5, h6, h⟩
@[irreducible] def sp_endless_heights : ASp := fun ds R => ∃ (l : Land) (q : Rat) (pr : List Rat), ds = [dLand l, dq q, dw pr] ∧ LandOk l ∧ Shr q ∧ PrL l pr ∧ ∀ hs, BestH l q pr hs → R (dC (pV l q pr hs)) 1 []
theorem sp_endless_heights.mk {l : Land} {q : Rat} {pr : List Rat} {R : RR} (h1 : LandOk l) (h2 : Shr q) (h3 : PrL l pr) (h : ∀ hs, BestH l q pr hs → R (dC (pV l q pr hs)) 1 []) : sp_endless_heights [dLand l, dq q, dw pr] R := by unfold sp_endless_heights; exact ⟨l, q, pr, rfl, h1, h2, h3, h⟩
def tightS (q : Rat) (pr x : List Rat) (s : St) (v : Rat) : List Nat := (List.range s.ds.length).filter fun (o : Nat) => decide (hgt q pr (fun j => x.getD j 0) s (o : Int) = v)
def tightL (l : Land) (q : Rat) (pr x : List Rat) : List (List Nat) := (l.sts.zipIdx 0).map fun y => tightS q pr x y.1 (x.getD y.2 0)
@[irreducible] def sp_tight_deeds : ASp := fun ds R => ∃ (l : Land) (q : Rat) (pr x : List Rat), ds = [dLand l, dq q, dw pr, dC x] ∧ LandOk l ∧ Shr q ∧ PrL l pr ∧ x.length = l.sts.length ∧ allw 10200000 x ∧ R (.lst ((tightL l q pr x).map fun os => .lst (os.map fun (o : Nat) => D.int (o : Int)))) 1 []
theorem sp_tight_deeds.mk {l : Land} {q : Rat} {pr x : List Rat} {R : RR} (h1 : LandOk l) (h2 : Shr q) (h3 : PrL l pr) (h5 : x.length = l.sts.length) (h6 : allw 10200000 x) (h : R (.lst ((tightL l q pr x).map fun os => .lst (os.map fun (o : Nat) => D.int (o : Int)))) 1 []) : sp_tight_deeds [dLand l, dq q, dw pr, dC x] R := by unfold sp_tight_deeds; exact ⟨l, q, pr, x, rfl, h1, h2, h3, h5, h6, h⟩
def bestL (l : Land) (q : Rat) (pr x : List Rat) : List Int := (tightL l q pr x).map fun os => match os with | o :: _ => (o : Int) | [] => -1
@[irreducible] def sp_best_habit : ASp := fun ds R => ∃ (l : Land) (q : Rat) (pr : List Rat), ds = [dLand l, dq q, dw pr] ∧ LandOk l ∧ Shr q ∧ PrL l pr ∧ ∀ hs, BestH l q pr hs → R (.tup ((bestL l q pr (pV l q pr hs)).map .int)) 0 []
theorem sp_best_habit.mk {l : Land} {q : Rat} {pr : List Rat} {R : RR} (h1 : LandOk l) (h2 : Shr q) (h3 : PrL l pr) (h : ∀ hs, BestH l q pr hs → R (.tup ((bestL l q pr (pV l q pr hs)).map .int)) 0 []) : sp_best_habit [dLand l, dq q, dw pr] R := by unfold sp_best_habit; exact ⟨l, q, pr, rfl, h1, h2, h3, h⟩

def rb_deed_height_3 : RS := (rSet 4 (rCall [false, false] sp_plus (rgAv (rVar 4) (rgAv (rCall [false, false] sp_times (rgAv (rCall [false, false] sp_times (rgAv (rVar 0) (rgAv (rVar 6) rgA0))) (rgAv (rOp2 gIx (roV 3) (roV 5)) rgA0))) rgA0))))
@[irreducible] def rd_deed_height_3 : RS := rb_deed_height_3
theorem rx_deed_height_3 : rb_deed_height_3 = rd_deed_height_3 := by unfold rd_deed_height_3; rfl
def rb_deed_height_4 : RS := (rRet (rMove 4))
@[irreducible] def rd_deed_height_4 : RS := rb_deed_height_4
theorem rx_deed_height_4 : rb_deed_height_4 = rd_deed_height_4 := by unfold rd_deed_height_4; rfl
def rb_deed_height_2 : RS := (rSeq (rFor (rIW [5, 6] (riSeq (rOp2 gIx (roV 2) (roE (rC (.int 1)))))) (rgTup 2 (rgCons (rgName 5) (rgCons (rgName 6) rgNil))) (rBW [5, 6] rd_deed_height_3))
  rd_deed_height_4)
@[irreducible] def rd_deed_height_2 : RS := rb_deed_height_2
theorem rx_deed_height_2 : rb_deed_height_2 = rd_deed_height_2 := by unfold rd_deed_height_2; rfl
def rd_deed_height : RS := (rSeq (rSet 4 (rCall [false, false] sp_priced (rgAv (rVar 1) (rgAv (rOp2 gIx (roV 2) (roE (rC (.int 0)))) rgA0))))
  rd_deed_height_2)
def rd_first_habit : RS := (rRet (rCB gTupOf (raCons (roE (rLc [1] (riSeq (rOp2 gIx (roV 0) (roE (rC (.int 1))))) (rgName 1) rYes (rIfE (rTb (rOp2 gEqN (roE (rOp2 gIx (roV 1) (roE (rC (.int 2))))) (roE (rLst1 rfNil)))) (rNeg (rC (.int 1))) (rC (.int 0))))) raNil)))
def rb_bettered_5 : RS := (rIf (rTb (rCall [false, false] sp_is_less (rgAv (rCall [false, false, false, false] sp_deed_height (rgAv (rVar 1) (rgAv (rVar 2) (rgAv (rOp2 gIx (roE (rOp2 gIx (roV 6) (roE (rC (.int 2))))) (roV 8)) (rgAv (rVar 4) rgA0))))) (rgAv (rCall [false, false, false, false] sp_deed_height (rgAv (rVar 1) (rgAv (rVar 2) (rgAv (rOp2 gIx (roE (rOp2 gIx (roV 6) (roE (rC (.int 2))))) (roV 9)) (rgAv (rVar 4) rgA0))))) rgA0)))) (rSet 8 (rVar 9)) rNext)
@[irreducible] def rd_bettered_5 : RS := rb_bettered_5
theorem rx_bettered_5 : rb_bettered_5 = rd_bettered_5 := by unfold rd_bettered_5; rfl
def rb_bettered_7 : RS := (rDrop (rMetF 5 gApp (rfCons (rVar 8) rfNil)))
@[irreducible] def rd_bettered_7 : RS := rb_bettered_7
theorem rx_bettered_7 : rb_bettered_7 = rd_bettered_7 := by unfold rd_bettered_7; rfl
def rb_bettered_4 : RS := (rSeq (rFor (rIW [9] (riRng1 (rfCons (rCB gLen (raCons (roE (rOp2 gIx (roV 6) (roE (rC (.int 2))))) raNil)) rfNil))) (rgName 9) (rBW [9] rd_bettered_5))
  rd_bettered_7)
@[irreducible] def rd_bettered_4 : RS := rb_bettered_4
theorem rx_bettered_4 : rb_bettered_4 = rd_bettered_4 := by unfold rd_bettered_4; rfl
def rb_bettered_3 : RS := (rSeq (rSet 8 (rVar 7))
  rd_bettered_4)
@[irreducible] def rd_bettered_3 : RS := rb_bettered_3
theorem rx_bettered_3 : rb_bettered_3 = rd_bettered_3 := by unfold rd_bettered_3; rfl
def rb_bettered_8 : RS := (rRet (rCB gTupOf (raCons (roV 5) raNil)))
@[irreducible] def rd_bettered_8 : RS := rb_bettered_8
theorem rx_bettered_8 : rb_bettered_8 = rd_bettered_8 := by unfold rd_bettered_8; rfl
def rb_bettered_2 : RS := (rSeq (rFor (rIW [6, 7, 8, 9] (riZipA (rfCons (rOp2 gIx (roV 0) (roE (rC (.int 1)))) (rfCons (rVar 3) rfNil)))) (rgTup 2 (rgCons (rgName 6) (rgCons (rgName 7) rgNil))) (rBW [6, 7, 8, 9] rd_bettered_3))
  rd_bettered_8)
@[irreducible] def rd_bettered_2 : RS := rb_bettered_2
theorem rx_bettered_2 : rb_bettered_2 = rd_bettered_2 := by unfold rd_bettered_2; rfl
def rd_bettered : RS := (rSeq (rSet 5 (rLst1 rfNil))
  rd_bettered_2)
def rb_endless_heights_7 : RS := (rSet 3 (rVar 6))
@[irreducible] def rd_endless_heights_7 : RS := rb_endless_heights_7
theorem rx_endless_heights_7 : rb_endless_heights_7 = rd_endless_heights_7 := by unfold rd_endless_heights_7; rfl
def rb_endless_heights_6 : RS := (rSeq (rSet 4 (rOp2 gNe (roV 6) (roV 3)))
  rd_endless_heights_7)
@[irreducible] def rd_endless_heights_6 : RS := rb_endless_heights_6
theorem rx_endless_heights_6 : rb_endless_heights_6 = rd_endless_heights_6 := by unfold rd_endless_heights_6; rfl
def rb_endless_heights_5 : RS := (rSeq (rSet 6 (rLendL (rCall [false, false, false, false, false] sp_bettered (rgAv (rVar 0) (rgAv (rVar 1) (rgAv (rVar 2) (rgAv (rVar 3) (rgAv (rVar 5) rgA0))))))))
  rd_endless_heights_6)
@[irreducible] def rd_endless_heights_5 : RS := rb_endless_heights_5
theorem rx_endless_heights_5 : rb_endless_heights_5 = rd_endless_heights_5 := by unfold rd_endless_heights_5; rfl
def rb_endless_heights_4 : RS := (rSeq (rSet 5 (rLc [7] (riSeq (rCall [false, false, false] sp_habit_sums (rgAv (rVar 0) (rgAv (rVar 1) (rgAv (rVar 3) rgA0))))) (rgName 7) rYes (rCall [false, false] sp_priced (rgAv (rVar 2) (rgAv (rVar 7) rgA0)))))
  rd_endless_heights_5)
@[irreducible] def rd_endless_heights_4 : RS := rb_endless_heights_4
theorem rx_endless_heights_4 : rb_endless_heights_4 = rd_endless_heights_4 := by unfold rd_endless_heights_4; rfl
def rb_endless_heights_8 : RS := (rRet (rMove 5))
@[irreducible] def rd_endless_heights_8 : RS := rb_endless_heights_8
theorem rx_endless_heights_8 : rb_endless_heights_8 = rd_endless_heights_8 := by unfold rd_endless_heights_8; rfl
def rb_endless_heights_3 : RS := (rSeq (rSW [6] (rWhile (rTb (rVar 4)) (rBW [6] rd_endless_heights_4)))
  rd_endless_heights_8)
@[irreducible] def rd_endless_heights_3 : RS := rb_endless_heights_3
theorem rx_endless_heights_3 : rb_endless_heights_3 = rd_endless_heights_3 := by unfold rd_endless_heights_3; rfl
def rb_endless_heights_2 : RS := (rSeq (rSet 4 (rC (.bl true)))
  rd_endless_heights_3)
@[irreducible] def rd_endless_heights_2 : RS := rb_endless_heights_2
theorem rx_endless_heights_2 : rb_endless_heights_2 = rd_endless_heights_2 := by unfold rd_endless_heights_2; rfl
def rd_endless_heights : RS := (rSeq (rSet 3 (rCall [false] sp_first_habit (rgAv (rVar 0) rgA0)))
  rd_endless_heights_2)
def rb_tight_deeds_4 : RS := (rDrop (rMetF 4 gApp (rfCons (rLc [9, 10] (riEnumA (rfCons (rVar 7) rfNil)) (rgTup 2 (rgCons (rgName 9) (rgCons (rgName 10) rgNil))) (rTb (rOp2 gEq (roV 10) (roE (rOp2 gIx (roV 3) (roV 5))))) (rVar 9)) rfNil)))
@[irreducible] def rd_tight_deeds_4 : RS := rb_tight_deeds_4
theorem rx_tight_deeds_4 : rb_tight_deeds_4 = rd_tight_deeds_4 := by unfold rd_tight_deeds_4; rfl
def rb_tight_deeds_3 : RS := (rSeq (rSet 7 (rLc [8] (riSeq (rOp2 gIx (roV 6) (roE (rC (.int 2))))) (rgName 8) rYes (rCall [false, false, false, false] sp_deed_height (rgAv (rVar 1) (rgAv (rVar 2) (rgAv (rVar 8) (rgAv (rVar 3) rgA0)))))))
  rd_tight_deeds_4)
@[irreducible] def rd_tight_deeds_3 : RS := rb_tight_deeds_3
theorem rx_tight_deeds_3 : rb_tight_deeds_3 = rd_tight_deeds_3 := by unfold rd_tight_deeds_3; rfl
def rb_tight_deeds_5 : RS := (rRet (rMove 4))
@[irreducible] def rd_tight_deeds_5 : RS := rb_tight_deeds_5
theorem rx_tight_deeds_5 : rb_tight_deeds_5 = rd_tight_deeds_5 := by unfold rd_tight_deeds_5; rfl
def rb_tight_deeds_2 : RS := (rSeq (rFor (rIW [5, 6, 7] (riEnumA (rfCons (rOp2 gIx (roV 0) (roE (rC (.int 1)))) rfNil))) (rgTup 2 (rgCons (rgName 5) (rgCons (rgName 6) rgNil))) (rBW [5, 6, 7] rd_tight_deeds_3))
  rd_tight_deeds_5)
@[irreducible] def rd_tight_deeds_2 : RS := rb_tight_deeds_2
theorem rx_tight_deeds_2 : rb_tight_deeds_2 = rd_tight_deeds_2 := by unfold rd_tight_deeds_2; rfl
def rd_tight_deeds : RS := (rSeq (rSet 4 (rLst1 rfNil))
  rd_tight_deeds_2)
def rd_best_habit : RS := (rSeq (rSet 3 (rCall [false, false, false, false] sp_tight_deeds (rgAv (rVar 0) (rgAv (rVar 1) (rgAv (rVar 2) (rgAv (rCall [false, false, false] sp_endless_heights (rgAv (rVar 0) (rgAv (rVar 1) (rgAv (rVar 2) rgA0)))) rgA0))))))
  (rRet (rCB gTupOf (raCons (roE (rLc [4] (riSeq (rVar 3)) (rgName 4) rYes (rIfE (rTb (rOp2 gNeN (roV 4) (roE (rLst1 rfNil)))) (rOp2 gIx (roV 4) (roE (rC (.int 0)))) (rNeg (rC (.int 1)))))) raNil))))

theorem rp_deed_height (ds : List D) (R : RR) (hl : ds.length = 4) (h : sp_deed_height ds R) : rd_deed_height (rho0 [false, false, false, false] 0 ds ++ List.replicate (7 - 4) .no) (endsOf [false, false, false, false] R) := by
  unfold sp_deed_height at h
  obtain ⟨l, q, pr, x, d, rfl, hok, hq, hp, hd, hx, hw, h⟩ := h
  have k4 := hok.k4
  have e := wt_qdot (allw_le hp.2 (show 21 ≤ 90 by decide)) hd.wts
  rw [hp.1] at e
  have e1 := Nat.mul_le_mul_right (2 * 90 + 1) k4
  have qw := hq.wt
  unfold dDeed
  walk_at "z"
  refine sp_priced.mk 90 (by rw [hp.1]; omega) (by rw [hp.1]; omega) (allw_le hp.2 (by decide)) hd.wts ?_
  walk_at "z"
  refine lit7 rfl ?_
  rw [← rx_deed_height_2]
  walk_at "zz"
  refine forL_fold (g := dF) (st := fun t => [.fz (dq q), .fz (dw pr), .fz (dDeed d), .fz (dC x), .fz (dq t), .no, .no]) (f := fun t f => t + q * f.2 * x.getD f.1 0)
    (P := fun t zs => (∃ a, wt t ≤ a ∧ a + zs.length * 10200017 ≤ 45000000) ∧ ∀ f ∈ zs, f.1 < l.sts.length ∧ wt f.2 ≤ 6) (fun t f zs N hP hN => ?_) d.fs (qdot pr d.w) ⟨⟨_, Nat.le_refl _, ?_⟩, fun f hf => ⟨hd.fol.lt f hf, hd.fol.wt f hf⟩⟩ (fun _ => ?_)
  · obtain ⟨⟨a, h1, h2⟩, h3⟩ := hP
    obtain ⟨h4, h5⟩ := h3 f (by simp)
    rw [List.length_cons, Nat.succ_mul] at h2
    have g := allw_at hw (show f.1 < x.length by omega)
    have m1 := wt_mul q f.2
    have m2 := wt_mul (q * f.2) (x.getD f.1 0)
    have m3 := wt_add t (q * f.2 * x.getD f.1 0)
    unfold dF
    walk_at "z"
    refine lit7 rfl ?_
    rw [← rx_deed_height_3]
    walk_at "z"
    refine sp_times.mk (by omega) ?_
    walk_at "z"
    refine ⟨_, atI_mp (gd_at (show f.1 < x.length by omega)), ?_⟩
    walk_at "z"
    refine sp_times.mk (by omega) ?_
    walk_at "z"
    refine sp_plus.mk (by omega) ?_
    exact ⟨_, rfl, rfl, rfl, hN ⟨⟨_, Nat.le_trans m3 (show _ ≤ a + 10200017 by omega), by omega⟩, fun y hy => h3 y (List.mem_cons_of_mem _ hy)⟩⟩
  · have := Nat.mul_le_mul_right 10200017 hd.fol.len
    omega
  · rw [← rx_deed_height_4, hsum_fold]
    exact ⟨_, rfl, h⟩
theorem rp_first_habit (ds : List D) (R : RR) (hl : ds.length = 1) (h : sp_first_habit ds R) : rd_first_habit (rho0 [false] 0 ds ++ List.replicate (2 - 1) .no) (endsOf [false] R) := by
  unfold sp_first_habit at h
  obtain ⟨l, rfl, hok, h⟩ := h
  have n8 := hok.n8
  unfold dLand
  walk_at "z"
  refine lcL_map' (g := dSt) (f := fun s : St => D.int (if s.ds.isEmpty then -1 else 0)) (ρw := [.fz (dLand l), .no]) (xs := l.sts) (by omega) (fun s hs m P N hm hP => ?_) rfl (fun ρ' h' => ?_)
  · unfold dSt
    walk_at "z"
    cases he : s.ds.isEmpty with
    | true =>
      have : s.ds = [] := List.isEmpty_iff.mp he
      rw [he, if_pos rfl] at hP
      rw [this]
      walk_at "z"
      exact ⟨hm, hP _ rfl⟩
    | false =>
      rw [he, if_neg (by decide)] at hP
      cases hd : s.ds with
      | nil => rw [hd] at he; cases he
      | cons d rest =>
        walk_at "z"
        exact ⟨hm, hP _ rfl⟩
  · rw [restE_wipe, h']
    walk_at "z"
    have : l.sts.map (fun s : St => D.int (if s.ds.isEmpty then -1 else 0)) = (fstH l).map .int := by unfold fstH; rw [List.map_map]; rfl
    rw [this]
    exact h

theorem hgtD_wt {l : Land} {q : Rat} {pr x : List Rat} {d : Deed} (hok : LandOk l) (hq : Shr q) (hp : PrL l pr) (hd : DeedOk l.k l.sts.length d) (hx : x.length = l.sts.length) (hw : allw 10200000 x) : wt (hgtD q pr x d) ≤ 45000000 := by
  have k4 := hok.k4
  have e := wt_qdot (allw_le hp.2 (show 21 ≤ 90 by decide)) hd.wts
  rw [hp.1] at e
  have e1 := Nat.mul_le_mul_right (2 * 90 + 1) k4
  have qw := hq.wt
  have key : ∀ (fs : List (Nat × Rat)) (t : Rat) (a : Nat), (∀ f ∈ fs, f.1 < l.sts.length ∧ wt f.2 ≤ 6) → wt t ≤ a → wt (fs.foldl (fun t f => t + q * f.2 * x.getD f.1 0) t) ≤ a + fs.length * 10200017 := fun fs => by
    induction fs with
    | nil => intro t a _ h; exact Nat.le_trans h (Nat.le_add_right _ _)
    | cons f fs ih =>
      intro t a hf h
      obtain ⟨f1, f2⟩ := hf f (by simp)
      have g := allw_at hw (show f.1 < x.length by omega)
      have m1 := wt_mul q f.2
      have m2 := wt_mul (q * f.2) (x.getD f.1 0)
      have m3 := wt_add t (q * f.2 * x.getD f.1 0)
      have := ih (t + q * f.2 * x.getD f.1 0) (a + 10200017) (fun y hy => hf y (List.mem_cons_of_mem _ hy)) (by omega)
      rw [List.length_cons, Nat.succ_mul, List.foldl_cons]
      omega
  have := key d.fs (qdot pr d.w) _ (fun f hf => ⟨hd.fol.lt f hf, hd.fol.wt f hf⟩) (Nat.le_refl _)
  rw [hsum_fold] at this
  have e2 := Nat.mul_le_mul_right 10200017 hd.fol.len
  unfold hgtD
  omega
theorem fold_app60 {α β : Type} (g : α → β) : ∀ (xs : List α) (acc : List β), xs.foldl (fun acc x => acc ++ [g x]) acc = acc ++ xs.map g
  | [], acc => by simp
  | x :: xs, acc => by rw [List.foldl_cons, fold_app60 g xs]; simp
theorem bet_5 (l : Land) (q : Rat) (pr x : List Rat) (hs : List Int) (hok : LandOk l) (hq : Shr q) (hp : PrL l pr) (hx : x.length = l.sts.length) (hw : allw 10200000 x) (s : St) (hm : s ∈ l.sts) (z : D) (acc : List Int) (b o : Nat) (hb : b < s.ds.length) (ho : o < s.ds.length) (E : EN)
    (hE : E.nx [.fz (dLand l), .fz (dq q), .fz (dw pr), .fz (.tup (hs.map .int)), .fz (dC x), .ow 1 (.lst (acc.map .int)), .fz (dSt s), .fz z, .fz (.int (if hgt q pr (fun j => x.getD j 0) s (b : Int) < hgt q pr (fun j => x.getD j 0) s (o : Int) then (o : Int) else (b : Int))), .no]) :
    rBW [9] rd_bettered_5 [.fz (dLand l), .fz (dq q), .fz (dw pr), .fz (.tup (hs.map .int)), .fz (dC x), .ow 1 (.lst (acc.map .int)), .fz (dSt s), .fz z, .fz (.int (b : Int)), .fz (.int (0 + (o : Int)))] E := by
  have eb : s.ds[b]? = some s.ds[b] := List.getElem?_eq_getElem hb
  have eo : s.ds[o]? = some s.ds[o] := List.getElem?_eq_getElem ho
  have db := (hok.sts s hm).ds _ (List.getElem_mem hb)
  have dO := (hok.sts s hm).ds _ (List.getElem_mem ho)
  have wb := hgtD_wt hok hq hp db hx hw
  have wo := hgtD_wt hok hq hp dO hx hw
  rw [hgtD_at eb, hgtD_at eo] at hE
  generalize s.ds[b] = d1 at *
  generalize s.ds[o] = d2 at *
  unfold rBW
  rw [← rx_bettered_5]
  rw [show (0 : Int) + (o : Int) = (o : Int) by omega]
  unfold dSt
  walk_at "z"
  refine ⟨_, atI_mp eb, ?_⟩
  walk_at "z"
  refine sp_deed_height.mk l hok hq hp db hx hw ?_
  walk_at "z"
  refine ⟨_, atI_mp eo, ?_⟩
  walk_at "z"
  refine sp_deed_height.mk l hok hq hp dO hx hw ?_
  walk_at "z"
  refine sp_is_less.mk (by omega) ?_
  walk_at "z"
  by_cases c : hgtD q pr x d1 < hgtD q pr x d2
  · rw [if_pos c] at hE
    rw [decide_eq_true c]
    walk_at "z"
    exact hE
  · rw [if_neg c] at hE
    rw [decide_eq_false c]
    walk_at "z"
    exact hE
theorem rp_bettered (ds : List D) (R : RR) (hl : ds.length = 5) (h : sp_bettered ds R) : rd_bettered (rho0 [false, false, false, false, false] 0 ds ++ List.replicate (10 - 5) .no) (endsOf [false, false, false, false, false] R) := by
  unfold sp_bettered at h
  obtain ⟨l, q, pr, x, hs, rfl, hok, hq, hp, hr, hx, hw, h⟩ := h
  have n8 := hok.n8
  walk_at "zz"
  refine lit10 rfl ?_
  rw [← rx_bettered_2]
  have eL : dLand l = .tup [.int l.k, .lst (l.sts.map dSt)] := rfl
  conv => lhs; rw [eL]
  walk_at "zz"
  rw [zip_sh]
  refine forL_fold (g := fun y : St × Int => D.tup [dSt y.1, .int y.2]) (st := fun acc : List Int => [.fz (dLand l), .fz (dq q), .fz (dw pr), .fz (.tup (hs.map .int)), .fz (dC x), .ow 1 (.lst (acc.map .int)), .no, .no, .no, .no])
    (f := fun acc y => acc ++ [bstS q pr (fun j => x.getD j 0) y.1 (List.range y.1.ds.length) y.2])
    (P := fun acc zs => acc.length + zs.length ≤ 8 ∧ ∀ y ∈ zs, ∃ i : Nat, l.sts[i]? = some y.1 ∧ hs[i]? = some y.2) (fun acc y zs N hP hN => ?_) (l.sts.zip hs) [] ⟨?_, fun y hy => ?_⟩ (fun _ => ?_)
  · obtain ⟨h1, h2⟩ := hP
    obtain ⟨i, ei, ez⟩ := h2 y (by simp)
    obtain ⟨s, z⟩ := y
    rw [List.length_cons] at h1
    have hs0 := List.mem_of_getElem? ei
    obtain ⟨z', ez', oz⟩ := hr.at ei
    rw [ez] at ez'
    cases ez'
    refine ⟨rfl, rfl, rfl, ?_⟩
    unfold rBW
    rw [← rx_bettered_3]
    walk_at "z"
    refine lit10 rfl ?_
    rw [← rx_bettered_4]
    have few := (hok.sts s hs0).few
    have eS : dSt s = .tup [.int s.c, dw s.e, .lst (s.ds.map dDeed)] := rfl
    conv => lhs; rw [eS]
    walk_at "zz"
    have lm : (s.ds.map dDeed).length = s.ds.length := List.length_map ..
    refine ⟨by rw [lm]; omega, ?_⟩
    refine ⟨rfl, ?_⟩
    rw [lm]
    show forL (rgName 9) (rBW [9] rd_bettered_5) ((List.range (s.ds.length : Int).toNat).map fun (o : Nat) => D.int (0 + (o : Int))) _ _
    rw [Int.toNat_natCast]
    refine forL_fold (g := fun (o : Nat) => D.int (0 + (o : Int))) (st := fun b : Int => [.fz (dLand l), .fz (dq q), .fz (dw pr), .fz (.tup (hs.map .int)), .fz (dC x), .ow 1 (.lst (acc.map .int)), .fz (dSt s), .fz (.int z), .fz (.int b), .no])
      (f := fun b (o : Nat) => if hgt q pr (fun j => x.getD j 0) s b < hgt q pr (fun j => x.getD j 0) s (o : Int) then (o : Int) else b)
      (P := fun b os => (∀ o ∈ os, o < s.ds.length) ∧ (os ≠ [] → ∃ nb : Nat, b = (nb : Int) ∧ nb < s.ds.length)) (fun b o os N2 hP2 hN2 => ?_) (List.range s.ds.length) z ⟨fun o ho => List.mem_range.mp ho, fun hne => ?_⟩ (fun _ => ?_)
    · obtain ⟨p1, p2⟩ := hP2
      obtain ⟨nb, rfl, hb⟩ := p2 (List.cons_ne_nil _ _)
      have ho := p1 o (by simp)
      refine ⟨rfl, ?_⟩
      refine bet_5 l q pr x hs hok hq hp hx hw s hs0 (.int z) acc nb o hb ho _ (hN2 ⟨fun p hp => p1 p (List.mem_cons_of_mem _ hp), fun _ => ?_⟩)
      split
      · exact ⟨o, rfl, ho⟩
      · exact ⟨nb, rfl, hb⟩
    · rcases okH_cases oz with ⟨hd, _⟩ | ⟨nb, e, hb⟩
      · rw [hd] at hne; exact absurd rfl hne
      · exact ⟨nb, e, hb⟩
    · show rd_bettered_7 [.fz (dLand l), .fz (dq q), .fz (dw pr), .fz (.tup (hs.map .int)), .fz (dC x), .ow 1 (.lst (acc.map .int)), .fz (dSt s), .fz (.int z), .fz (.int (bstS q pr (fun j => x.getD j 0) s (List.range s.ds.length) z)), .no] _
      rw [← rx_bettered_7]
      walk_at "z"
      refine ⟨smallL (Nat.ble_eq_true_of_le (by rw [List.length_map]; omega)), ?_⟩
      walk_at "z"
      have := hN ⟨by rw [List.length_append, List.length_singleton]; omega, fun y hy => h2 y (List.mem_cons_of_mem _ hy)⟩
      rw [List.map_append] at this
      exact this
  · rw [List.length_zip]
    show 0 + _ ≤ 8
    omega
  · obtain ⟨i, hi⟩ := List.mem_iff_getElem?.mp hy
    obtain ⟨e1, e2⟩ := List.getElem?_zip_eq_some.mp hi
    exact ⟨i, e1, e2⟩
  · rw [← rx_bettered_8, fold_app60, List.nil_append]
    walk_at "z"
    exact h
theorem fstH_ok {l : Land} (hl : LandOk l) : RowOk l (fstH l) := by
  refine row_of hl (by unfold fstH; rw [List.length_map]) fun i s z e1 e2 => ?_
  unfold fstH at e2
  rw [List.getElem?_map, e1] at e2
  cases e2
  show (if s.ds.isEmpty then decide ((if s.ds.isEmpty then (-1 : Int) else 0) = -1) else decide (0 ≤ (if s.ds.isEmpty then (-1 : Int) else 0)) && decide ((if s.ds.isEmpty then (-1 : Int) else 0) < s.ds.length)) = true
  cases he : s.ds.isEmpty with
  | true => rfl
  | false =>
    have : 0 < s.ds.length := by
      cases hd : s.ds with
      | nil => rw [hd] at he; cases he
      | cons _ _ => simp
    rw [if_neg (by decide), if_neg (by decide), decide_eq_true (by decide), decide_eq_true (by omega)]; rfl
theorem eqbs_ints : ∀ a b : List Int, eqbs (a.map .int) (b.map .int) = decide (a = b)
  | [], [] => rfl
  | [], _ :: _ => rfl
  | _ :: _, [] => rfl
  | x :: a, y :: b => by
    show (eqb (.int x) (.int y) && eqbs (a.map .int) (b.map .int)) = _
    rw [eqb_int, eqbs_ints a b]
    by_cases c : x = y
    · subst c
      rw [decide_eq_true rfl, Bool.true_and]
      by_cases d : a = b
      · subst d; rw [decide_eq_true rfl, decide_eq_true rfl]
      · rw [decide_eq_false d, decide_eq_false (fun z => d (List.cons.inj z).2)]
    · rw [decide_eq_false c, decide_eq_false (fun z => c (List.cons.inj z).1)]; rfl
theorem row_okD (a : List Int) : (D.tup (a.map .int)).ok 64 = true := by
  show (a.map D.int).all (D.ok 63) = true
  rw [List.all_eq_true]
  intro d hd
  obtain ⟨i, _, rfl⟩ := List.mem_map.mp hd
  rfl
theorem flat_row (a : List Int) : flatK 0 (D.tup (a.map .int)) = true := by
  show flats (a.map D.int) = true
  induction a with
  | nil => rfl
  | cons x a ih => exact ih
theorem eqb_row {a b : List Int} : eqb (.tup (a.map .int)) (.tup (b.map .int)) = decide (a = b) := eqbs_ints a b
theorem end_loop (l : Land) (q : Rat) (pr : List Rat) (hok : LandOk l) (hq : Shr q) (hp : PrL l pr) (E : EN) (hE : ∀ hs, BestH l q pr hs → E.nx [.fz (dLand l), .fz (dq q), .fz (dw pr), .fz (.tup (hs.map .int)), .fz (.bl false), .ow 1 (dC (pV l q pr hs)), .no, .no]) :
    ∀ (m : Nat) (hs : List Int) (x5 : Sl), meas l q pr hs = m → RowOk l hs → (x5 = .no ∨ ∃ d, x5 = .ow 1 d) → ∃ n, whL (rTb (rVar 4)) (rBW [6] rd_endless_heights_4) n [.fz (dLand l), .fz (dq q), .fz (dw pr), .fz (.tup (hs.map .int)), .fz (.bl true), x5, .no, .no] E := by
  intro m
  induction m using Nat.strongRecOn with
  | _ m ih =>
    intro hs x5 hm hr h5
    have len := pV_len (pr := pr) hok hq hr.1
    have wts := pV_wt hok hq hr.1 hp
    have hw1 := habS_wt hok hq hr.1
    have em : (habS l q hs).map (fun w => dq (qdot pr w)) = (pV l q pr hs).map dq := by unfold pV; rw [List.map_map]; rfl
    have k4 := hok.k4
    have n8 := hok.n8
    have body : ∀ (N : Ev → Prop) (E2 : EN), E2.nx = N → N [.fz (dLand l), .fz (dq q), .fz (dw pr), .fz (.tup ((better l q pr (xV l q pr hs) hs).map .int)), .fz (.bl (!decide (better l q pr (xV l q pr hs) hs = hs))), .ow 1 (dC (pV l q pr hs)), .no, .no] → rBW [6] rd_endless_heights_4 [.fz (dLand l), .fz (dq q), .fz (dw pr), .fz (.tup (hs.map .int)), .fz (.bl true), x5, .no, .no] E2 := fun N E2 hE2 hN => by
      subst hE2
      have tail : ∀ x6 : Sl, rd_endless_heights_5 [.fz (dLand l), .fz (dq q), .fz (dw pr), .fz (.tup (hs.map .int)), .fz (.bl true), .ow 1 (dC (pV l q pr hs)), .no, .no] { nx := fun ρ1 => allNo [6] ρ1 = true ∧ E2.nx (wipeE [6] ρ1), rt := E2.rt, bk := E2.bk, ct := fun ρ1 => allNo [6] ρ1 = true ∧ E2.ct (wipeE [6] ρ1) } := fun x6 => by
        rw [← rx_endless_heights_5]
        walk_at "z"
        refine sp_bettered.mk (x := pV l q pr hs) hok hq hp hr len wts ?_
        walk_at "z"
        refine ⟨flat_row _, ?_⟩
        walk_at "z"
        refine lit8 rfl ?_
        rw [← rx_endless_heights_6]
        walk_at "z"
        refine ⟨row_okD _, row_okD _, ?_⟩
        rw [eqb_row]
        walk_at "z"
        refine lit8 rfl ?_
        rw [← rx_endless_heights_7]
        walk_at "z"
        exact hN
      unfold rBW
      rw [← rx_endless_heights_4]
      rcases h5 with rfl | ⟨d, rfl⟩
      · walk_at "z"
        refine sp_habit_sums.mk hok hr hq ?_
        walk_at "z"
        refine lcL_map' (g := dw) (f := fun w => dq (qdot pr w)) (ρw := [.fz (dLand l), .fz (dq q), .fz (dw pr), .fz (.tup (hs.map .int)), .fz (.bl true), .no, .no, .no]) (xs := habS l q hs) (by rw [hw1.1]; omega) (fun w hw2 n2 P N3 hn hP => ?_) rfl (fun ρ' h' => ?_)
        · obtain ⟨w1, w2⟩ := hw1.2 w hw2
          walk_at "z"
          refine sp_priced.mk 1270000 (by rw [hp.1]; omega) (by rw [hp.1]; have := Nat.mul_le_mul_right (2 * 1270000 + 1) k4; omega) (allw_le hp.2 (by decide)) w2 ?_
          walk_at "z"
          exact ⟨hn, hP _ rfl⟩
        rw [restE_wipe, h', em]
        walk_at "z"
        exact tail .no
      · walk_at "z"
        refine sp_habit_sums.mk hok hr hq ?_
        walk_at "z"
        refine lcL_map' (g := dw) (f := fun w => dq (qdot pr w)) (ρw := [.fz (dLand l), .fz (dq q), .fz (dw pr), .fz (.tup (hs.map .int)), .fz (.bl true), .ow 1 d, .no, .no]) (xs := habS l q hs) (by rw [hw1.1]; omega) (fun w hw2 n2 P N3 hn hP => ?_) rfl (fun ρ' h' => ?_)
        · obtain ⟨w1, w2⟩ := hw1.2 w hw2
          walk_at "z"
          refine sp_priced.mk 1270000 (by rw [hp.1]; omega) (by rw [hp.1]; have := Nat.mul_le_mul_right (2 * 1270000 + 1) k4; omega) (allw_le hp.2 (by decide)) w2 ?_
          walk_at "z"
          exact ⟨hn, hP _ rfl⟩
        rw [restE_wipe, h', em]
        walk_at "z"
        exact tail .no
    by_cases c : better l q pr (xV l q pr hs) hs = hs
    · refine ⟨2, ?_⟩
      show way true _ _
      refine ⟨fun _ => ?_, fun z => Bool.noConfusion z⟩
      refine body _ _ rfl ?_
      rw [c, decide_eq_true rfl]
      show way false _ _
      exact ⟨fun z => Bool.noConfusion z, fun _ => hE hs (best_of hok hq hr c)⟩
    · obtain ⟨n, hn⟩ := ih _ (by rw [← hm]; exact meas_lt hok hq hr c) (better l q pr (xV l q pr hs) hs) (.ow 1 (dC (pV l q pr hs))) rfl (better_ok hok hr) (.inr ⟨_, rfl⟩)
      refine ⟨n + 1, ?_⟩
      show way true _ _
      refine ⟨fun _ => ?_, fun z => Bool.noConfusion z⟩
      refine body _ _ rfl ?_
      rw [decide_eq_false c]
      exact hn

theorem small6 {n : Nat} (h : n ≤ 2000000) : n < sizeLine := Nat.lt_of_le_of_lt h (by decide)
theorem rp_endless_heights (ds : List D) (R : RR) (hl : ds.length = 3) (h : sp_endless_heights ds R) : rd_endless_heights (rho0 [false, false, false] 0 ds ++ List.replicate (8 - 3) .no) (endsOf [false, false, false] R) := by
  unfold sp_endless_heights at h
  obtain ⟨l, q, pr, rfl, hok, hq, hp, h⟩ := h
  walk_at "z"
  refine sp_first_habit.mk hok ?_
  walk_at "z"
  refine lit8 rfl ?_
  rw [← rx_endless_heights_2]
  walk_at "z"
  refine lit8 rfl ?_
  rw [← rx_endless_heights_3]
  refine ⟨rfl, ?_⟩
  refine end_loop l q pr hok hq hp _ (fun hs hb => ?_) _ (fstH l) .no rfl (fstH_ok hok) (.inl rfl)
  show rd_endless_heights_8 [.fz (dLand l), .fz (dq q), .fz (dw pr), .fz (.tup (hs.map .int)), .fz (.bl false), .ow 1 (dC (pV l q pr hs)), .no, .no] _
  rw [← rx_endless_heights_8]
  walk_at "z"
  exact h hs hb
theorem lcL_filterG {α : Type} {ivs : List Nat} {rg : RG} {rt : RT} {re : RE} {Q : List D → Ev → Prop} {g f : α → D} {p : α → Bool} {ρw : Ev} {xs : List α} (hl : xs.length ≤ 100000)
    (step : ∀ x ∈ xs, ∀ (n : Nat) (P : D → Ev → Prop) (N : Ev → Prop), n < sizeLine → (p x = true → ∀ ρ3, wipeE ivs ρ3 = ρw → P (f x) ρ3) → (p x = false → ∀ ρ2, wipeE ivs ρ2 = ρw → N ρ2) → rg (g x) ρw fun ρ1 => rt ρ1 fun c ρ2 => way c (re ρ2 fun y _ ρ3 => n < sizeLine ∧ P y ρ3) (N ρ2))
    {ρ : Ev} (h0 : wipeE ivs ρ = ρw) (fin : ∀ ρ', wipeE ivs ρ' = ρw → Q ((xs.filter p).map f) ρ') : lcL ivs rg rt re (xs.map g) ρ [] Q := by
  refine lcL_inv (I := fun items acc ρ => wipeE ivs ρ = ρw ∧ ∃ ys zs, xs = ys ++ zs ∧ items = zs.map g ∧ acc = (ys.filter p).map f) (fun acc ρ hI => ?_) (fun d ds acc ρ P N hP hN hI => ?_) _ _ _ ⟨h0, [], xs, rfl, rfl, rfl⟩
  · obtain ⟨h, ys, zs, e1, e2, e3⟩ := hI
    have : zs = [] := List.map_eq_nil_iff.mp e2.symm
    rw [this, List.append_nil] at e1
    rw [e3, ← e1]
    exact fin ρ h
  · obtain ⟨h, ys, zs, e1, e2, e3⟩ := hI
    cases zs with
    | nil => cases e2
    | cons z zs =>
      cases e2
      rw [h]
      have ll : acc.length < sizeLine := by
        refine small6 ?_
        have := List.length_filter_le p ys
        rw [e3, List.length_map]
        rw [e1, List.length_append, List.length_cons] at hl
        omega
      refine step z (by rw [e1]; simp) acc.length P N ll (fun hp ρ3 h3 => hP _ _ ⟨h3, ys ++ [z], zs, by rw [e1, List.append_assoc]; rfl, rfl, ?_⟩) (fun hp ρ2 h2 => hN _ ⟨h2, ys ++ [z], zs, by rw [e1, List.append_assoc]; rfl, rfl, ?_⟩)
      · rw [e3, List.filter_append, List.filter_cons, if_pos hp, List.map_append]; rfl
      · rw [e3, List.filter_append, List.filter_cons, if_neg (by rw [hp]; decide), List.filter_nil, List.append_nil]
theorem rp_tight_deeds (ds : List D) (R : RR) (hl : ds.length = 4) (h : sp_tight_deeds ds R) : rd_tight_deeds (rho0 [false, false, false, false] 0 ds ++ List.replicate (11 - 4) .no) (endsOf [false, false, false, false] R) := by
  unfold sp_tight_deeds at h
  obtain ⟨l, q, pr, x, rfl, hok, hq, hp, hx, hw, h⟩ := h
  have n8 := hok.n8
  walk_at "zz"
  refine lit11 rfl ?_
  rw [← rx_tight_deeds_2]
  have eL : dLand l = .tup [.int l.k, .lst (l.sts.map dSt)] := rfl
  conv => lhs; rw [eL]
  walk_at "zz"
  rw [enumL_map]
  refine forL_fold (g := fun y : St × Nat => D.tup [.int (y.2 : Nat), dSt y.1]) (st := fun acc : List (List Nat) => [.fz (dLand l), .fz (dq q), .fz (dw pr), .fz (dC x), .ow 1 (.lst (acc.map fun os => .lst (os.map fun (o : Nat) => D.int (o : Int)))), .no, .no, .no, .no, .no, .no])
    (f := fun acc y => acc ++ [tightS q pr x y.1 (x.getD y.2 0)])
    (P := fun acc zs => acc.length + zs.length ≤ 8 ∧ ∀ y ∈ zs, l.sts[y.2]? = some y.1) (fun acc y zs N hP hN => ?_) (l.sts.zipIdx 0) [] ⟨?_, fun y hy => ?_⟩ (fun _ => ?_)
  · obtain ⟨h1, h2⟩ := hP
    have ei := h2 y (by simp)
    obtain ⟨s, i⟩ := y
    rw [List.length_cons] at h1
    have hs0 := List.mem_of_getElem? ei
    have hi : i < l.sts.length := (List.getElem?_eq_some_iff.mp ei).1
    have few := (hok.sts s hs0).few
    refine ⟨rfl, rfl, rfl, ?_⟩
    unfold rBW
    rw [← rx_tight_deeds_3]
    unfold dSt
    walk_at "z"
    refine lcL_map' (g := dDeed) (f := fun d => dq (hgtD q pr x d)) (ρw := [.fz (dLand l), .fz (dq q), .fz (dw pr), .fz (dC x), .ow 1 (.lst (acc.map fun os => .lst (os.map fun (o : Nat) => D.int (o : Int)))), .fz (.int (i : Nat)), .fz (dSt s), .no, .no, .no, .no]) (xs := s.ds) (by omega) (fun d hd n2 P N3 hn hP => ?_) rfl (fun ρ' h' => ?_)
    · walk_at "z"
      refine sp_deed_height.mk l hok hq hp ((hok.sts s hs0).ds d hd) hx hw ?_
      walk_at "z"
      exact ⟨hn, hP _ rfl⟩
    rw [restE_wipe, h']
    walk_at "z"
    have em : s.ds.map (fun d => dq (hgtD q pr x d)) = (s.ds.map (hgtD q pr x)).map dq := by rw [List.map_map]; rfl
    rw [em]
    show rd_tight_deeds_4 [.fz (dLand l), .fz (dq q), .fz (dw pr), .fz (dC x), .ow 1 (.lst (acc.map fun os => .lst (os.map fun (o : Nat) => D.int (o : Int)))), .fz (.int (i : Nat)), .fz (dSt s), .ow 1 (.lst ((s.ds.map (hgtD q pr x)).map dq)), .no, .no, .no] _
    rw [← rx_tight_deeds_4]
    walk_at "z"
    rw [enumL_get0]
    refine lcL_filterG (g := fun (o : Nat) => D.tup [.int (o : Nat), dq ((s.ds.map (hgtD q pr x)).getD o 0)]) (f := fun (o : Nat) => D.int (o : Int)) (p := fun (o : Nat) => decide (hgt q pr (fun j => x.getD j 0) s (o : Int) = x.getD i 0)) (ρw := [.fz (dLand l), .fz (dq q), .fz (dw pr), .fz (dC x), .ow 1 (.lst (acc.map fun os => .lst (os.map fun (o : Nat) => D.int (o : Int)))), .fz (.int (i : Nat)), .fz (dSt s), .fz (.lst ((s.ds.map (hgtD q pr x)).map dq)), .no, .no, .no]) (xs := List.range (s.ds.map (hgtD q pr x)).length) (by rw [List.length_range, List.length_map]; omega) (fun o ho n2 P N3 hn hP hN3 => ?_) rfl (fun ρ' h' => ?_)
    · have ho := List.mem_range.mp ho
      rw [List.length_map] at ho
      have eo : s.ds[o]? = some s.ds[o] := List.getElem?_eq_getElem ho
      have e1 : (s.ds.map (hgtD q pr x)).getD o 0 = hgt q pr (fun j => x.getD j 0) s (o : Int) := by
        rw [List.getD_eq_getElem?_getD, List.getElem?_map, eo, hgtD_at eo]; rfl
      rw [e1]
      walk_at "z"
      refine ⟨_, atI_mp (gd_at (show i < x.length by omega)), ?_⟩
      walk_at "z"
      rw [eqb_dq]
      by_cases c : hgt q pr (fun j => x.getD j 0) s (o : Int) = x.getD i 0
      · rw [decide_eq_true c] at hP ⊢
        walk_at "z"
        exact ⟨hn, hP rfl _ rfl⟩
      · rw [decide_eq_false c] at hN3 ⊢
        walk_at "z"
        exact hN3 rfl _ rfl
    rw [restE_wipe, h']
    walk_at "z"
    refine ⟨smallL (Nat.ble_eq_true_of_le (by rw [List.length_map]; omega)), ?_⟩
    walk_at "z"
    have := hN ⟨by rw [List.length_append, List.length_singleton]; omega, fun y hy => h2 y (List.mem_cons_of_mem _ hy)⟩
    rw [List.map_append] at this
    unfold tightS at this
    rw [List.length_map]
    exact this
  · rw [List.length_zipIdx]
    show 0 + _ ≤ 8
    omega
  · have := List.mem_zipIdx hy
    obtain ⟨_, h2, h3⟩ := this
    rw [List.getElem?_eq_getElem (by omega), h3]
    simp
  · rw [← rx_tight_deeds_5, fold_app60, List.nil_append]
    walk_at "z"
    exact h
theorem rp_best_habit (ds : List D) (R : RR) (hl : ds.length = 3) (h : sp_best_habit ds R) : rd_best_habit (rho0 [false, false, false] 0 ds ++ List.replicate (5 - 3) .no) (endsOf [false, false, false] R) := by
  unfold sp_best_habit at h
  obtain ⟨l, q, pr, rfl, hok, hq, hp, h⟩ := h
  have n8 := hok.n8
  walk_at "z"
  refine sp_endless_heights.mk hok hq hp fun hs hb => ?_
  walk_at "z"
  refine sp_tight_deeds.mk hok hq hp (pV_len hok hq hb.row.1) (pV_wt hok hq hb.row.1 hp) ?_
  have lt : (tightL l q pr (pV l q pr hs)).length ≤ 8 := by unfold tightL; rw [List.length_map, List.length_zipIdx]; exact n8
  have h := h hs hb
  unfold bestL at h
  generalize tightL l q pr (pV l q pr hs) = oss at *
  walk_at "z"
  refine lcL_map' (g := fun os : List Nat => D.lst (os.map fun (o : Nat) => D.int (o : Int))) (f := fun os : List Nat => D.int (match os with | o :: _ => (o : Int) | [] => -1)) (ρw := [.fz (dLand l), .fz (dq q), .fz (dw pr), .fz (.lst (oss.map fun os => .lst (os.map fun (o : Nat) => D.int (o : Int)))), .no]) (xs := oss) (by omega) (fun os ho n2 P N3 hn hP => ?_) rfl (fun ρ' h' => ?_)
  · cases os with
    | nil =>
      walk_at "z"
      exact ⟨hn, hP _ rfl⟩
    | cons o os =>
      walk_at "z"
      refine ⟨_, atI_mp (g := fun (o : Nat) => D.int (o : Int)) (xs := o :: os) (i := 0) rfl, ?_⟩
      walk_at "z"
      exact ⟨hn, hP _ rfl⟩
  rw [restE_wipe, h']
  walk_at "z"
  rw [List.map_map] at h
  exact h

end VL

set_option maxHeartbeats 2000000
set_option pp.maxSteps 5000
namespace VL
open PySem PySem.Spec PyProof.Rows L2
local macro_rules | `(tactic| walk_at "n") => `(tactic| refine ⟨fun h => Bool.noConfusion (show false = true from h), fun _ => ?_⟩)
local macro_rules | `(tactic| walk_at "ty") => `(tactic| refine ⟨_, rfl, by decide, ?_⟩)
local macro_rules | `(tactic| walk_at "tys") => `(tactic| refine ⟨_, rfl, _, rfl, by decide, ?_⟩)
local macro_rules | `(tactic| walk_at "v") => `(tactic| repeat (first | refine ⟨rfl, ?_⟩ | refine ⟨_, rfl, ?_⟩))
local macro_rules | `(tactic| walk_at "y") => `(tactic| refine ⟨fun _ => ?_, fun h => Bool.noConfusion (show true = false from h)⟩)
local macro_rules | `(tactic| walk_at "z") => `(tactic| repeat (first | refine ⟨rfl, ?_⟩ | refine ⟨_, rfl, ?_⟩ | refine ⟨fun _ => ?_, fun h => Bool.noConfusion (show true = false from h)⟩ | refine ⟨fun h => Bool.noConfusion (show false = true from h), fun _ => ?_⟩ | refine ⟨tyIn rfl, ?_⟩ | refine ⟨tysIn rfl, ?_⟩ | refine ⟨smallL rfl, ?_⟩ | refine ⟨smallE rfl, ?_⟩))
local macro_rules | `(tactic| walk_at "zz") => `(tactic| repeat ((fail_if_success show forL _ _ _ _ _); first | refine ⟨rfl, ?_⟩ | refine ⟨_, rfl, ?_⟩ | refine ⟨fun _ => ?_, fun h => Bool.noConfusion (show true = false from h)⟩ | refine ⟨fun h => Bool.noConfusion (show false = true from h), fun _ => ?_⟩ | refine ⟨tyIn rfl, ?_⟩ | refine ⟨tysIn rfl, ?_⟩ | refine ⟨smallL rfl, ?_⟩ | refine ⟨smallE rfl, ?_⟩))
structure LandM (l : Land) : Prop where
  k1 : 1 ≤ l.k
  k4 : l.k ≤ 4
  n1 : 1 ≤ l.sts.length
  n8 : l.sts.length ≤ 8
  sts : ∀ s ∈ l.sts, s.c < l.k ∧ s.e.length = l.k ∧ allw 21 s.e ∧ s.ds.length ≤ 8 ∧ ∀ d ∈ s.ds, DeedN l.k l.sts.length d
  tot : (l.sts.map fun s => s.ds.length).sum ≤ 29
theorem LandM.ok {l : Land} (h : LandM l) : LandOk l := ⟨h.k1, h.k4, h.n1, h.n8, fun s hs => by
  obtain ⟨a, b, c, d, e⟩ := h.sts s hs
  exact ⟨a, b, c, by omega, fun x hx => (e x hx).ok⟩⟩
theorem sum_set3 {n : Nat} : ∀ {ss : List St}, (∀ s ∈ ss, s.ds.length ≤ n) → (ss.map fun s => s.ds.length).sum ≤ ss.length * n
  | [], _ => Nat.zero_le _
  | s :: ss, h => by
    have a := h s (by simp)
    have b := sum_set3 (ss := ss) fun x hx => h x (List.mem_cons_of_mem _ hx)
    rw [List.map_cons, List.sum_cons, List.length_cons, Nat.succ_mul]
    omega
theorem LandGo.m {l : Land} (h : LandGo l) : LandM l := ⟨h.k1, h.k4, h.n1, h.n8, fun s hs => by
  have := h.sts s hs
  exact ⟨this.c, this.len, this.wts, Nat.le_trans this.few (by decide), this.ds⟩, by
  have a := sum_set3 (n := 3) (ss := l.sts) fun s hs => (h.sts s hs).few
  have h8 := h.n8
  omega⟩
@[irreducible] def sp_l_close : ASp := fun ds R => ∃ (t : Tp) (w : List Rat) (c : Nat), ds = [dT t, dw w] ∧ allw 21 w ∧ w.length ≤ 900 ∧ t.ok (c + 1) ∧ ∀ (e : Rat) (t' : Tp), -1 ≤ e → e ≤ 1 → wt e ≤ 67 → t'.ok c → R (dw (w.map fun q => q + e)) 0 [dT t']
theorem sp_l_close.mk {t : Tp} {w : List Rat} {R : RR} (c : Nat) (h1 : allw 21 w) (h2 : w.length ≤ 900) (h3 : t.ok (c + 1)) (h : ∀ (e : Rat) (t' : Tp), -1 ≤ e → e ≤ 1 → wt e ≤ 67 → t'.ok c → R (dw (w.map fun q => q + e)) 0 [dT t']) : sp_l_close [dT t, dw w] R := by unfold sp_l_close; exact ⟨t, w, c, rfl, h1, h2, h3, h⟩
@[irreducible] def sp_l_many_deeds : ASp := fun ds R => ∃ (t : Tp) (l : Land) (c : Nat), ds = [dT t, dLand l] ∧ LandGo l ∧ t.ok (c + 300) ∧ ∀ (l' : Land) (t' : Tp), LandM l' → l'.k = l.k → t'.ok c → R (dLand l') 0 [dT t']
theorem sp_l_many_deeds.mk {t : Tp} {l : Land} {R : RR} (c : Nat) (h1 : LandGo l) (h2 : t.ok (c + 300)) (h : ∀ (l' : Land) (t' : Tp), LandM l' → l'.k = l.k → t'.ok c → R (dLand l') 0 [dT t']) : sp_l_many_deeds [dT t, dLand l] R := by unfold sp_l_many_deeds; exact ⟨t, l, c, rfl, h1, h2, h⟩
def rd_l_close : RS := (rSeq (rSet 2 (rOp2 gIx (roE (rLst1 (rfCons (rTup1 (rfCons (rC (.int 0)) (rfCons (rC (.int 1)) rfNil))) (rfCons (rTup1 (rfCons (rC (.int 1)) (rfCons (rOp2 gPow (roE (rC (.int 10))) (roE (rC (.int 20)))) rfNil))) (rfCons (rTup1 (rfCons (rNeg (rC (.int 1))) (rfCons (rOp2 gPow (roE (rC (.int 10))) (roE (rC (.int 20)))) rfNil))) rfNil))))) (roE (rCall [true, false] sp_l_draw (rgAs 0 (rgAv (rC (.int 3)) rgA0))))))
  (rRet (rCB gTupOf (raCons (roE (rLc [3] (riSeq (rVar 1)) (rgName 3) rYes (rCall [false, false] sp_l_plus (rgAv (rVar 3) (rgAv (rVar 2) rgA0))))) raNil))))
def rb_l_many_deeds_6 : RS := (rDrop (rMetF 5 gApp (rfCons (rTup1 (rfCons (rCall [true, false] sp_l_worth (rgAs 0 (rgAv (rOp2 gIx (roV 1) (roE (rC (.int 0)))) rgA0))) (rfCons (rCall [true, false, false] sp_l_followers (rgAs 0 (rgAv (rCB gLen (raCons (roE (rOp2 gIx (roV 1) (roE (rC (.int 1))))) raNil)) (rgAv (rC (.int 2)) rgA0)))) rfNil))) rfNil)))
@[irreducible] def rd_l_many_deeds_6 : RS := rb_l_many_deeds_6
theorem rx_l_many_deeds_6 : rb_l_many_deeds_6 = rd_l_many_deeds_6 := by unfold rd_l_many_deeds_6; rfl
def rb_l_many_deeds_7 : RS := (rRet (rTup1 (rfCons (rOp2 gIx (roV 1) (roE (rC (.int 0)))) (rfCons (rOp2 gAddA (roE (rLst1 (rfCons (rTup1 (rfCons (rVar 2) (rfCons (rVar 3) (rfCons (rVar 5) rfNil)))) rfNil))) (roE (rSlA2 (roE (rOp2 gIx (roV 1) (roE (rC (.int 1))))) (rpSome (rC (.int 1))) rpNone))) rfNil))))
@[irreducible] def rd_l_many_deeds_7 : RS := rb_l_many_deeds_7
theorem rx_l_many_deeds_7 : rb_l_many_deeds_7 = rd_l_many_deeds_7 := by unfold rd_l_many_deeds_7; rfl
def rb_l_many_deeds_5 : RS := (rSeq (rFor (rIW [6] (riRng1 (rfCons (rOp2 gAddA (roE (rC (.int 5))) (roE (rCall [true, false] sp_l_draw (rgAs 0 (rgAv (rC (.int 4)) rgA0))))) rfNil))) (rgName 6) (rBW [6] rd_l_many_deeds_6))
  rd_l_many_deeds_7)
@[irreducible] def rd_l_many_deeds_5 : RS := rb_l_many_deeds_5
theorem rx_l_many_deeds_5 : rb_l_many_deeds_5 = rd_l_many_deeds_5 := by unfold rd_l_many_deeds_5; rfl
def rb_l_many_deeds_4 : RS := (rSeq (rSet 5 (rLst1 rfNil))
  rd_l_many_deeds_5)
@[irreducible] def rd_l_many_deeds_4 : RS := rb_l_many_deeds_4
theorem rx_l_many_deeds_4 : rb_l_many_deeds_4 = rd_l_many_deeds_4 := by unfold rd_l_many_deeds_4; rfl
def rb_l_many_deeds_3 : RS := (rSeq (rAsg (rOp2 gIx (roE (rOp2 gIx (roV 1) (roE (rC (.int 1))))) (roE (rC (.int 0)))) (rgTup 3 (rgCons (rgName 2) (rgCons (rgName 3) (rgCons (rgName 4) rgNil)))))
  rd_l_many_deeds_4)
@[irreducible] def rd_l_many_deeds_3 : RS := rb_l_many_deeds_3
theorem rx_l_many_deeds_3 : rb_l_many_deeds_3 = rd_l_many_deeds_3 := by unfold rd_l_many_deeds_3; rfl
def rd_l_many_deeds : RS := (rSeq (rIf (rTb (rOp2 gGtI (roE (rCall [true, false] sp_l_draw (rgAs 0 (rgAv (rC (.int 8)) rgA0)))) (roE (rC (.int 0))))) (rRet (rMove 1)) rNext)
  rd_l_many_deeds_3)
def rd_l_doubled : RS := (rSeq (rSet 2 (rCall [true, false] sp_l_draw (rgAs 0 (rgAv (rCB gLen (raCons (roE (rOp2 gIx (roV 1) (roE (rC (.int 1))))) raNil)) rgA0))))
  (rSeq (rAsg (rOp2 gIx (roE (rOp2 gIx (roV 1) (roE (rC (.int 1))))) (roV 2)) (rgTup 3 (rgCons (rgName 3) (rgCons (rgName 4) (rgCons (rgName 5) rgNil)))))
  (rSeq (rIf (rTb (rOp2 gIn (roE (rCB gLen (raCons (roV 5) raNil))) (roE (rTup1 (rfCons (rC (.int 1)) (rfCons (rC (.int 2)) (rfCons (rC (.int 3)) rfNil))))))) (rSeq (rSet 6 (rCB gListOf (raCons (roV 5) raNil)))
  (rSeq (rDrop (rMetF 6 gIns (rfCons (rCall [true, false] sp_l_draw (rgAs 0 (rgAv (rOp2 gAddA (roE (rCB gLen (raCons (roV 6) raNil))) (roE (rC (.int 1)))) rgA0))) (rfCons (rTup1 (rfCons (rCall [true, false] sp_l_close (rgAs 0 (rgAv (rOp2 gIx (roE (rOp2 gIx (roV 5) (roE (rC (.int 0))))) (roE (rC (.int 0)))) rgA0))) (rfCons (rCB gListOf (raCons (roE (rOp2 gIx (roE (rOp2 gIx (roV 5) (roE (rC (.int 0))))) (roE (rC (.int 1))))) raNil)) rfNil))) rfNil))))
  (rRet (rTup1 (rfCons (rOp2 gIx (roV 1) (roE (rC (.int 0)))) (rfCons (rOp2 gAddA (roE (rOp2 gAddA (roE (rSlA2 (roE (rOp2 gIx (roV 1) (roE (rC (.int 1))))) rpNone (rpSome (rVar 2)))) (roE (rLst1 (rfCons (rTup1 (rfCons (rVar 3) (rfCons (rVar 4) (rfCons (rVar 6) rfNil)))) rfNil))))) (roE (rSlA2 (roE (rOp2 gIx (roV 1) (roE (rC (.int 1))))) (rpSome (rOp2 gAddA (roV 2) (roE (rC (.int 1))))) rpNone))) rfNil)))))) rNext)
  (rRet (rMove 1)))))
def qE (b : Bool) : Rat := if b then ⟨1, 10 ^ 20, by decide, by decide +kernel⟩ else ⟨-1, 10 ^ 20, by decide, by decide +kernel⟩
theorem qE_ok (b : Bool) : wt (qE b) ≤ 67 ∧ -1 ≤ qE b ∧ qE b ≤ 1 := by cases b <;> decide +kernel
theorem by_ix {w : Nat} (h : w < 3) : ∃ e : Rat, atI [D.tup [.int 0, .int 1], D.tup [.int 1, .int (10 ^ 20)], D.tup [.int (-1), .int (10 ^ 20)]] (w : Int) = some (dq e) ∧ -1 ≤ e ∧ e ≤ 1 ∧ wt e ≤ 67 := by
  rcases (show w = 0 ∨ w = 1 ∨ w = 2 by omega) with rfl | rfl | rfl
  · exact ⟨0, rfl, by decide +kernel, by decide +kernel, by decide +kernel⟩
  · obtain ⟨a, b, c⟩ := qE_ok true
    exact ⟨qE true, rfl, b, c, a⟩
  · obtain ⟨a, b, c⟩ := qE_ok false
    exact ⟨qE false, rfl, b, c, a⟩
theorem rp_l_close (ds : List D) (R : RR) (hl : ds.length = 2) (h : sp_l_close ds R) : rd_l_close (rho0 [true, false] 0 ds ++ List.replicate (4 - 2) .no) (endsOf [true, false] R) := by
  unfold sp_l_close at h
  obtain ⟨t, w, c, rfl, hw, hlen, ht, h⟩ := h
  unfold rd_l_close
  walk_at "z"
  refine ⟨⟨by decide, by decide, by decide⟩, ?_⟩
  walk_at "z"
  refine ⟨⟨by decide, by decide, by decide⟩, ?_⟩
  walk_at "z"
  refine sp_l_draw.mk' c ht (by decide) (by decide) fun r t1 r0 r1 ht1 => ?_
  obtain ⟨r, rfl⟩ : ∃ m : Nat, r = m := ⟨r.toNat, by omega⟩
  obtain ⟨e, he, e1, e2, e3⟩ := by_ix (w := r) (by omega)
  walk_at "z"
  refine ⟨_, he, ?_⟩
  walk_at "z"
  unfold dw
  walk_at "z"
  refine lcL_map' (f := fun (q : Rat) => dq (q + e)) (g := dq) (ρw := [.io 0 (dT t1), .fz (dw w), .fz (dq e), .no]) (xs := w) (by omega) (fun q hq m P N hn2 hP => ?_) rfl (fun ρ' h' => ?_)
  · have := hw q hq
    walk_at "z"
    refine sp_plus.mk (by omega) ?_
    walk_at "z"
    exact ⟨hn2, hP _ rfl⟩
  · rw [restE_wipe, h']
    walk_at "z"
    have ee : D.tup (w.map fun q => dq (q + e)) = dw (w.map fun q => q + e) := by unfold dw; rw [List.map_map]; rfl
    rw [ee]
    exact h e t1 e1 e2 e3 ht1
theorem rp_l_many_deeds (ds : List D) (R : RR) (hl : ds.length = 2) (h : sp_l_many_deeds ds R) : rd_l_many_deeds (rho0 [true, false] 0 ds ++ List.replicate (7 - 2) .no) (endsOf [true, false] R) := by
  unfold sp_l_many_deeds at h
  obtain ⟨t, l, c, rfl, hgo, ht, h⟩ := h
  have hM := hgo.m
  obtain ⟨k, sts⟩ := l
  have k1 : 1 ≤ k := hgo.k1
  have k4 : k ≤ 4 := hgo.k4
  have n1 : 1 ≤ sts.length := hgo.n1
  have n8 : sts.length ≤ 8 := hgo.n8
  cases sts with
  | nil => exact absurd n1 (by decide)
  | cons s0 rest =>
  have hsts : ∀ s ∈ s0 :: rest, StN k (s0 :: rest).length s := hgo.sts
  have hs0 := hsts s0 (by simp)
  obtain ⟨c0, e0, ds0⟩ := s0
  show rd_l_many_deeds [.io 0 (dT t), .fz (.tup [.int (k : Int), .lst (.tup [.int (c0 : Int), dw e0, .lst (ds0.map dDeed)] :: rest.map dSt)]), .no, .no, .no, .no, .no] _
  unfold rd_l_many_deeds
  walk_at "z"
  refine sp_l_draw.mk' (c + 299) ht (by decide) (by decide) fun a t1 a0 a1 ht1 => ?_
  walk_at "z"
  show way (decide ((0 : Int) < a)) _ _
  by_cases q : (0 : Int) < a
  · rw [decide_eq_true q]
    refine ⟨fun _ => ?_, fun z => Bool.noConfusion z⟩
    walk_at "z"
    exact h ⟨k, ⟨c0, e0, ds0⟩ :: rest⟩ t1 hM rfl (ht1.le (by omega))
  · rw [decide_eq_false q]
    refine ⟨fun z => Bool.noConfusion z, fun _ => ?_⟩
    show rd_l_many_deeds_3 _ _
    refine lit7 rfl ?_
    rw [← rx_l_many_deeds_3]
    walk_at "z"
    refine ⟨_, atI_nat (j := 0) rfl, ?_⟩
    walk_at "z"
    refine lit7 rfl ?_
    rw [← rx_l_many_deeds_4]
    walk_at "z"
    refine lit7 rfl ?_
    rw [← rx_l_many_deeds_5]
    walk_at "zz"
    refine sp_l_draw.mk' (c + 298) ht1 (by decide) (by decide) fun b t2 b0 b1 ht2 => ?_
    walk_at "zz"
    refine ⟨by omega, ?_⟩
    walk_at "zz"
    generalize hNN : (⟨c0, e0, ds0⟩ :: rest : List St).length = N at *
    have rl : rest.length + 1 = N := by rw [← hNN]; rfl
    have lenR : ((D.tup [.int (c0 : Int), dw e0, .lst (ds0.map dDeed)] :: rest.map dSt).length : Int) = (N : Int) := by rw [List.length_cons, List.length_map, rl]
    refine forL_inv (I := fun items ρ => ∃ (t : Tp) (fs : List Deed), ρ = [.io 0 (dT t), .fz (.tup [.int (k : Int), .lst (.tup [.int (c0 : Int), dw e0, .lst (ds0.map dDeed)] :: rest.map dSt)]), .fz (.int (c0 : Int)), .fz (dw e0), .fz (.lst (ds0.map dDeed)), .ow 1 (.lst (fs.map dDeed)), .no] ∧ fs.length + items.length ≤ 8 ∧ t.ok (c + 33 * items.length) ∧ ∀ d ∈ fs, DeedN k N d) (fun ρ hI => ?_) (fun e es ρ P hP hI => ?_) _ _ ⟨t2, [], rfl, ?_, ?_, fun d hd => absurd hd List.not_mem_nil⟩
    · obtain ⟨t3, fs, rfl, f1, ht3, f2⟩ := hI
      have ht3 : t3.ok c := by simpa using ht3
      have f1 : fs.length ≤ 8 := by simpa using f1
      have cd : cutL (D.tup [.int (c0 : Int), dw e0, .lst (ds0.map dDeed)] :: rest.map dSt) (some (1 : Int)) none = rest.map dSt := cut_drop (xs := D.tup [.int (c0 : Int), dw e0, .lst (ds0.map dDeed)] :: rest.map dSt) (i := 1) (by simp)
      refine lit7 rfl ?_
      rw [← rx_l_many_deeds_7]
      walk_at "z"
      refine ⟨by show 1 + (cutL (D.tup [.int (c0 : Int), dw e0, .lst (ds0.map dDeed)] :: rest.map dSt) (some (1 : Int)) none).length ≤ sizeLine; rw [cd, List.length_map]; exact smallE (Nat.ble_eq_true_of_le (by omega)), ?_⟩
      walk_at "z"
      show R (D.tup [.int k, .lst ([dSt ⟨c0, e0, fs⟩] ++ cutL (D.tup [.int (c0 : Int), dw e0, .lst (ds0.map dDeed)] :: rest.map dSt) (some (1 : Int)) none)]) 0 [dT t3]
      rw [cd]
      have e : (⟨c0, e0, fs⟩ :: rest : List St).length = N := by rw [← rl]; rfl
      refine h ⟨k, ⟨c0, e0, fs⟩ :: rest⟩ t3 ⟨k1, k4, by show 1 ≤ (⟨c0, e0, fs⟩ :: rest : List St).length; omega, by show (⟨c0, e0, fs⟩ :: rest : List St).length ≤ 8; omega, fun s hs => ?_, ?_⟩ rfl ht3
      · show s.c < k ∧ s.e.length = k ∧ allw 21 s.e ∧ s.ds.length ≤ 8 ∧ ∀ d ∈ s.ds, DeedN k (⟨c0, e0, fs⟩ :: rest : List St).length d
        rw [e]
        rcases List.mem_cons.mp hs with rfl | hs
        · exact ⟨hs0.c, hs0.len, hs0.wts, f1, f2⟩
        · have := hsts s (List.mem_cons_of_mem _ hs)
          exact ⟨this.c, this.len, this.wts, Nat.le_trans this.few (by decide), this.ds⟩
      · have a := sum_set3 (n := 3) (ss := rest) fun s hs => (hsts s (List.mem_cons_of_mem _ hs)).few
        show fs.length + (rest.map fun s => s.ds.length).sum ≤ 29
        omega
    · obtain ⟨t3, fs, rfl, f1, ht3, f2⟩ := hI
      rw [List.length_cons] at f1 ht3
      refine ⟨rfl, ?_⟩
      unfold rBW
      rw [← rx_l_many_deeds_6]
      walk_at "z"
      refine sp_l_worth.mk (c + 33 * es.length + 13) (by omega) (ht3.le (by omega)) fun qs t4 hq1 hq2 ht4 => ?_
      walk_at "z"
      show sp_l_followers [dT t4, .int ((D.tup [.int (c0 : Int), dw e0, .lst (ds0.map dDeed)] :: rest.map dSt).length : Int), .int 2] _
      rw [lenR]
      refine sp_l_followers.mk (m := 2) (c + 33 * es.length) (by omega) (by omega) (by decide) (by decide) ht4 fun gs t5 hg ht5 => ?_
      walk_at "z"
      refine ⟨by rw [List.length_map]; exact smallL (Nat.ble_eq_true_of_le (by omega)), ?_⟩
      refine ⟨rfl, hP _ ⟨t5, fs ++ [⟨qs, gs⟩], by rw [List.map_append]; rfl, by rw [List.length_append]; show fs.length + 1 + es.length ≤ 8; omega, ht5, fun d hd => ?_⟩⟩
      rcases List.mem_append.mp hd with hd | hd
      · exact f2 d hd
      · rw [List.mem_singleton.mp hd]
        exact ⟨hq1, hq2, hg⟩
    · rw [List.length_map, List.length_range]; show 0 + (5 + b).toNat ≤ 8; omega
    · rw [List.length_map, List.length_range]
      exact ht2.le (by show c + 33 * (5 + b).toNat ≤ _; omega)
theorem LandM.ins {l : Land} {p j : Nat} {s : St} {d : Deed} {e : Rat} (h : LandM l) (hs : l.sts[p]? = some s) (hd : d ∈ s.ds) (few : s.ds.length ≤ 3) (ew : wt e ≤ 67) : LandOk ⟨l.k, l.sts.set p ⟨s.c, s.e, s.ds.take j ++ [⟨d.w.map fun q => q + e, d.fs⟩] ++ s.ds.drop j⟩⟩ := by
  have hm := List.mem_of_getElem? hs
  obtain ⟨s1, s2, s3, s4, s5⟩ := h.sts s hm
  have dd := s5 d hd
  have len : (l.sts.set p ⟨s.c, s.e, s.ds.take j ++ [⟨d.w.map fun q => q + e, d.fs⟩] ++ s.ds.drop j⟩).length = l.sts.length := List.length_set
  have w90 : allw 90 (d.w.map fun q => q + e) := fun q hq => by
    obtain ⟨x, hx, rfl⟩ := List.mem_map.mp hq
    have := wt_add x e
    have := dd.wts x hx
    omega
  refine ⟨h.k1, h.k4, by show 1 ≤ (l.sts.set p _).length; rw [len]; exact h.n1, by show (l.sts.set p _).length ≤ 8; rw [len]; exact h.n8, fun x hx => ?_⟩
  show StOk l.k (l.sts.set p _).length x
  rw [len]
  rcases List.mem_or_eq_of_mem_set hx with hx | rfl
  · exact h.ok.sts x hx
  · refine ⟨s1, s2, s3, ?_, fun y hy => ?_⟩
    · show (s.ds.take j ++ [_] ++ s.ds.drop j).length ≤ 9
      rw [List.length_append, List.length_append, List.length_take, List.length_drop]
      show min j s.ds.length + 1 + (s.ds.length - j) ≤ 9
      omega
    · rcases List.mem_append.mp hy with hy | hy
      · rcases List.mem_append.mp hy with hy | hy
        · exact (s5 y (List.mem_of_mem_take hy)).ok
        · rw [List.mem_singleton.mp hy]
          exact ⟨by show (d.w.map _).length = l.k; rw [List.length_map]; exact dd.len, w90, dd.fol⟩
      · exact (s5 y (List.mem_of_mem_drop hy)).ok
@[irreducible] def sp_l_doubled : ASp := fun ds R => ∃ (t : Tp) (l : Land) (c : Nat), ds = [dT t, dLand l] ∧ LandM l ∧ t.ok (c + 3) ∧ ∀ (l' : Land) (t' : Tp), LandOk l' → l'.k = l.k → t'.ok c → R (dLand l') 0 [dT t']
theorem sp_l_doubled.mk {t : Tp} {l : Land} {R : RR} (c : Nat) (h1 : LandM l) (h2 : t.ok (c + 3)) (h : ∀ (l' : Land) (t' : Tp), LandOk l' → l'.k = l.k → t'.ok c → R (dLand l') 0 [dT t']) : sp_l_doubled [dT t, dLand l] R := by unfold sp_l_doubled; exact ⟨t, l, c, rfl, h1, h2, h⟩
theorem in123 {n : Nat} (h : n ≤ 8) : inD (.int (n : Int)) [.int 1, .int 2, .int 3] = decide (1 ≤ n ∧ n ≤ 3) := by
  rcases (show n = 0 ∨ n = 1 ∨ n = 2 ∨ n = 3 ∨ n = 4 ∨ n = 5 ∨ n = 6 ∨ n = 7 ∨ n = 8 by omega) with rfl | rfl | rfl | rfl | rfl | rfl | rfl | rfl | rfl <;> rfl
theorem rp_l_doubled (ds : List D) (R : RR) (hl : ds.length = 2) (h : sp_l_doubled ds R) : rd_l_doubled (rho0 [true, false] 0 ds ++ List.replicate (7 - 2) .no) (endsOf [true, false] R) := by
  unfold sp_l_doubled at h
  obtain ⟨t, l, c, rfl, hM, ht, h⟩ := h
  have n1 := hM.n1
  have n8 := hM.n8
  unfold rd_l_doubled dLand
  walk_at "z"
  rw [List.length_map]
  refine sp_l_draw.mk' (c + 2) ht (by omega) (by omega) fun p t1 p0 p1 ht1 => ?_
  obtain ⟨p, rfl⟩ : ∃ m : Nat, p = m := ⟨p.toNat, by omega⟩
  have hp : p < l.sts.length := by omega
  have es : l.sts[p]? = some l.sts[p] := List.getElem?_eq_getElem hp
  have hs5 := hM.sts _ (List.mem_of_getElem? es)
  have more := fun d j hd few e ew => hM.ins (p := p) (j := j) (d := d) (e := e) es hd few ew
  have setd : ∀ s' : St, D.lst (cutL (l.sts.map dSt) none (some (p : Int)) ++ [dSt s'] ++ cutL (l.sts.map dSt) (some ((p : Int) + 1)) none) = .lst ((l.sts.set p s').map dSt) := fun s' => by
    have c1 := cut_take (xs := l.sts.map dSt) (i := p) (by rw [List.length_map]; omega)
    have c2 := cut_drop (xs := l.sts.map dSt) (i := p + 1) (by rw [List.length_map]; omega)
    rw [show ((p + 1 : Nat) : Int) = (p : Int) + 1 by omega] at c2
    rw [c1, c2, List.map_set]
    congr 1
    rw [List.set_eq_take_append_cons_drop, if_pos (by rw [List.length_map]; exact hp), List.append_assoc]
    rfl
  generalize l.sts[p] = s at *
  obtain ⟨c0, e0, ds0⟩ := s
  have l8 : ds0.length ≤ 8 := hs5.2.2.2.1
  walk_at "z"
  refine ⟨_, atI_mp es, ?_⟩
  unfold dSt
  walk_at "z"
  show way (inD (.int ((ds0.map dDeed).length : Int)) [.int 1, .int 2, .int 3]) _ _
  rw [List.length_map, in123 l8]
  by_cases q : 1 ≤ ds0.length ∧ ds0.length ≤ 3
  · rw [decide_eq_true q]
    refine ⟨fun _ => ?_, fun z => Bool.noConfusion z⟩
    cases ds0 with
    | nil => exact absurd q.1 (by decide)
    | cons d0 dt =>
    have hd0 := hs5.2.2.2.2 d0 (by simp)
    have len := hd0.len
    have k4 := hM.k4
    walk_at "z"
    show sp_l_draw [dT t1, .int ((((d0 :: dt).map dDeed).length : Int) + 1)] _
    rw [List.length_map]
    refine sp_l_draw.mk' (c + 1) (ht1.le (by omega)) (by omega) (by omega) fun j t2 j0 j1 ht2 => ?_
    obtain ⟨j, rfl⟩ : ∃ m : Nat, j = m := ⟨j.toNat, by omega⟩
    walk_at "z"
    refine ⟨_, atI_nat (j := 0) rfl, ?_⟩
    unfold dDeed
    walk_at "z"
    refine sp_l_close.mk c hd0.wts (by omega) (ht2.le (by omega)) fun e t3 e1 e2 ew ht3 => ?_
    walk_at "z"
    refine ⟨_, atI_nat (j := 0) rfl, ?_⟩
    walk_at "z"
    refine ⟨smallL (Nat.ble_eq_true_of_le (by rw [List.length_map]; omega)), ⟨by omega, by omega⟩, ?_⟩
    have em : ((d0 :: dt).map dDeed).take (j : Int).toNat ++ [dDeed ⟨d0.w.map fun q => q + e, d0.fs⟩] ++ ((d0 :: dt).map dDeed).drop (j : Int).toNat = ((d0 :: dt).take j ++ [(⟨d0.w.map fun q => q + e, d0.fs⟩ : Deed)] ++ (d0 :: dt).drop j).map dDeed := by
      rw [Int.toNat_natCast, List.map_append, List.map_append, List.map_take, List.map_drop]; rfl
    have more := more d0 j (by simp) q.2 e ew
    have lp := cut_len (l.sts.map dSt) none (some (p : Int))
    have lq := cut_len (l.sts.map dSt) (some ((p : Int) + 1)) none
    rw [List.length_map] at lp lq
    have se := setd ⟨c0, e0, (d0 :: dt).take j ++ [⟨d0.w.map fun q => q + e, d0.fs⟩] ++ (d0 :: dt).drop j⟩
    show rRet (rTup1 (rfCons (rOp2 gIx (roV 1) (roE (rC (.int 0)))) (rfCons (rOp2 gAddA (roE (rOp2 gAddA (roE (rSlA2 (roE (rOp2 gIx (roV 1) (roE (rC (.int 1))))) rpNone (rpSome (rVar 2)))) (roE (rLst1 (rfCons (rTup1 (rfCons (rVar 3) (rfCons (rVar 4) (rfCons (rVar 6) rfNil)))) rfNil))))) (roE (rSlA2 (roE (rOp2 gIx (roV 1) (roE (rC (.int 1))))) (rpSome (rOp2 gAddA (roV 2) (roE (rC (.int 1))))) rpNone))) rfNil))) [.io 0 (dT t3), .fz (dLand l), .fz (.int (p : Int)), .fz (.int (c0 : Int)), .fz (dw e0), .fz (.lst ((d0 :: dt).map dDeed)), .ow 1 (.lst (((d0 :: dt).map dDeed).take (j : Int).toNat ++ [dDeed ⟨d0.w.map fun q => q + e, d0.fs⟩] ++ ((d0 :: dt).map dDeed).drop (j : Int).toNat))] _
    rw [em]
    generalize (d0 :: dt).take j ++ [(⟨d0.w.map fun q => q + e, d0.fs⟩ : Deed)] ++ (d0 :: dt).drop j = ds1 at *
    unfold dLand
    walk_at "z"
    refine ⟨smallE (Nat.ble_eq_true_of_le (by show (cutL (l.sts.map dSt) none (some (p : Int))).length + 1 ≤ 1000; omega)), ?_⟩
    walk_at "z"
    refine ⟨smallE (Nat.ble_eq_true_of_le (by rw [List.length_append]; show (cutL (l.sts.map dSt) none (some (p : Int))).length + 1 + (cutL (l.sts.map dSt) (some ((p : Int) + 1)) none).length ≤ 1000; omega)), ?_⟩
    walk_at "z"
    have e9 : D.tup [.int (l.k : Int), .lst (cutL (l.sts.map dSt) none (some (p : Int)) ++ [.tup [.int (c0 : Int), dw e0, .lst (ds1.map dDeed)]] ++ cutL (l.sts.map dSt) (some ((p : Int) + 1)) none)] = dLand ⟨l.k, l.sts.set p ⟨c0, e0, ds1⟩⟩ := by
      show D.tup [.int (l.k : Int), .lst (cutL (l.sts.map dSt) none (some (p : Int)) ++ [dSt ⟨c0, e0, ds1⟩] ++ cutL (l.sts.map dSt) (some ((p : Int) + 1)) none)] = _
      rw [se]; rfl
    show R (D.tup [.int (l.k : Int), .lst (cutL (l.sts.map dSt) none (some (p : Int)) ++ [.tup [.int (c0 : Int), dw e0, .lst (ds1.map dDeed)]] ++ cutL (l.sts.map dSt) (some ((p : Int) + 1)) none)]) 0 [dT t3]
    rw [e9]
    exact h _ t3 more rfl ht3
  · rw [decide_eq_false q]
    refine ⟨fun z => Bool.noConfusion z, fun _ => ?_⟩
    walk_at "z"
    exact h l t1 hM.ok rfl (ht1.le (by omega))


end VL

set_option maxHeartbeats 2000000
set_option pp.maxSteps 5000
namespace VL
open PySem PySem.Spec PyProof.Rows L2
local macro_rules | `(tactic| walk_at "n") => `(tactic| refine ⟨fun h => Bool.noConfusion (show false = true from h), fun _ => ?_⟩)
local macro_rules | `(tactic| walk_at "ty") => `(tactic| refine ⟨_, rfl, by decide, ?_⟩)
local macro_rules | `(tactic| walk_at "tys") => `(tactic| refine ⟨_, rfl, _, rfl, by decide, ?_⟩)
local macro_rules | `(tactic| walk_at "v") => `(tactic| repeat (first | refine ⟨rfl, ?_⟩ | refine ⟨_, rfl, ?_⟩))
local macro_rules | `(tactic| walk_at "y") => `(tactic| refine ⟨fun _ => ?_, fun h => Bool.noConfusion (show true = false from h)⟩)
local macro_rules | `(tactic| walk_at "z") => `(tactic| repeat (first | refine ⟨rfl, ?_⟩ | refine ⟨_, rfl, ?_⟩ | refine ⟨fun _ => ?_, fun h => Bool.noConfusion (show true = false from h)⟩ | refine ⟨fun h => Bool.noConfusion (show false = true from h), fun _ => ?_⟩ | refine ⟨tyIn rfl, ?_⟩ | refine ⟨tysIn rfl, ?_⟩ | refine ⟨smallL rfl, ?_⟩ | refine ⟨smallE rfl, ?_⟩))
local macro_rules | `(tactic| walk_at "zz") => `(tactic| repeat ((fail_if_success show forL _ _ _ _ _); first | refine ⟨rfl, ?_⟩ | refine ⟨_, rfl, ?_⟩ | refine ⟨fun _ => ?_, fun h => Bool.noConfusion (show true = false from h)⟩ | refine ⟨fun h => Bool.noConfusion (show false = true from h), fun _ => ?_⟩ | refine ⟨tyIn rfl, ?_⟩ | refine ⟨tysIn rfl, ?_⟩ | refine ⟨smallL rfl, ?_⟩ | refine ⟨smallE rfl, ?_⟩))
/-! ### the law's own word on heights -/
@[irreducible] def sp_l_deed_height : ASp := fun ds R => ∃ (l : Land) (q : Rat) (pr x : List Rat) (d : Deed), ds = [dDeed d, dq q, dw pr, dC x] ∧ LandOk l ∧ Shr q ∧ PrL l pr ∧ DeedOk l.k l.sts.length d ∧ x.length = l.sts.length ∧ allw 10200000 x ∧ R (dq (hgtD q pr x d)) 0 []
theorem sp_l_deed_height.mk {q : Rat} {pr x : List Rat} {d : Deed} {R : RR} (l : Land) (h1 : LandOk l) (h2 : Shr q) (h3 : PrL l pr) (h4 : DeedOk l.k l.sts.length d) (h5 : x.length = l.sts.length) (h6 : allw 10200000 x) (h : R (dq (hgtD q pr x d)) 0 []) : sp_l_deed_height [dDeed d, dq q, dw pr, dC x] R := by unfold sp_l_deed_height; exact ⟨l, q, pr, x, d, rfl, h1, h2, h3, h4, h5, h6, h⟩
@[irreducible] def sp_l_heights_right : ASp := fun ds R => ∃ (l : Land) (q : Rat) (pr : List Rat) (hs : List Int), ds = [dLand l, dq q, dw pr, dC (pV l q pr hs), .tup ((bestL l q pr (pV l q pr hs)).map .int)] ∧ LandOk l ∧ Shr q ∧ PrL l pr ∧ BestH l q pr hs ∧ R (.bl true) 0 []
theorem sp_l_heights_right.mk {l : Land} {q : Rat} {pr : List Rat} {hs : List Int} {R : RR} (h1 : LandOk l) (h2 : Shr q) (h3 : PrL l pr) (h4 : BestH l q pr hs) (h : R (.bl true) 0 []) : sp_l_heights_right [dLand l, dq q, dw pr, dC (pV l q pr hs), .tup ((bestL l q pr (pV l q pr hs)).map .int)] R := by unfold sp_l_heights_right; exact ⟨l, q, pr, hs, rfl, h1, h2, h3, h4, h⟩

def rb_l_deed_height_3 : RS := (rSet 4 (rCall [false, false] sp_l_plus (rgAv (rVar 4) (rgAv (rCall [false, false] sp_l_times (rgAv (rOp2 gIx (roV 3) (roV 5)) (rgAv (rCall [false, false] sp_l_times (rgAv (rVar 1) (rgAv (rVar 6) rgA0))) rgA0))) rgA0))))
@[irreducible] def rd_l_deed_height_3 : RS := rb_l_deed_height_3
theorem rx_l_deed_height_3 : rb_l_deed_height_3 = rd_l_deed_height_3 := by unfold rd_l_deed_height_3; rfl
def rb_l_deed_height_4 : RS := (rRet (rMove 4))
@[irreducible] def rd_l_deed_height_4 : RS := rb_l_deed_height_4
theorem rx_l_deed_height_4 : rb_l_deed_height_4 = rd_l_deed_height_4 := by unfold rd_l_deed_height_4; rfl
def rb_l_deed_height_2 : RS := (rSeq (rFor (rIW [5, 6] (riSeq (rOp2 gIx (roV 0) (roE (rC (.int 1)))))) (rgTup 2 (rgCons (rgName 5) (rgCons (rgName 6) rgNil))) (rBW [5, 6] rd_l_deed_height_3))
  rd_l_deed_height_4)
@[irreducible] def rd_l_deed_height_2 : RS := rb_l_deed_height_2
theorem rx_l_deed_height_2 : rb_l_deed_height_2 = rd_l_deed_height_2 := by unfold rd_l_deed_height_2; rfl
def rd_l_deed_height : RS := (rSeq (rSet 4 (rCall [false, false] sp_l_priced (rgAv (rVar 2) (rgAv (rOp2 gIx (roV 0) (roE (rC (.int 0)))) rgA0))))
  rd_l_deed_height_2)
def rb_l_heights_right_7 : RS := (rIf (rAnd (rTb (rOp2 gNeN (roV 8) (roE (rLst1 rfNil)))) (rTb (rOp2 gNe (roE (rOp2 gIx (roV 4) (roV 5))) (roE (rIdx 9 (raCons (roE (rOp2 gIx (roV 3) (roV 5))) raNil)))))) (rRet (rC (.bl false))) rNext)
@[irreducible] def rd_l_heights_right_7 : RS := rb_l_heights_right_7
theorem rx_l_heights_right_7 : rb_l_heights_right_7 = rd_l_heights_right_7 := by unfold rd_l_heights_right_7; rfl
def rb_l_heights_right_5 : RS := (rSeq (rIf (rOr (rAnd (rTb (rOp2 gNeN (roV 8) (roE (rLst1 rfNil)))) (rTb (rOp2 gNotInD (roE (rOp2 gIx (roV 3) (roV 5))) (roV 9)))) (rTb (rCB (gBls fun l => l.any id) (raCons (roE (rLc [11] (riSeq (rVar 9)) (rgName 11) rYes (rCall [false, false] sp_l_less (rgAv (rOp2 gIx (roV 3) (roV 5)) (rgAv (rVar 11) rgA0))))) raNil)))) (rRet (rC (.bl false))) rNext)
  rd_l_heights_right_7)
@[irreducible] def rd_l_heights_right_5 : RS := rb_l_heights_right_5
theorem rx_l_heights_right_5 : rb_l_heights_right_5 = rd_l_heights_right_5 := by unfold rd_l_heights_right_5; rfl
def rb_l_heights_right_3 : RS := (rSeq (rIf (rAnd (rTb (rOp2 gEqN (roV 8) (roE (rLst1 rfNil)))) (rOr (rTb (rOp2 gNe (roE (rOp2 gIx (roV 3) (roV 5))) (roE (rCall [false, false] sp_l_priced (rgAv (rVar 2) (rgAv (rVar 7) rgA0)))))) (rTb (rOp2 gNe (roE (rOp2 gIx (roV 4) (roV 5))) (roE (rNeg (rC (.int 1)))))))) (rRet (rC (.bl false))) rNext)
  rd_l_heights_right_5)
@[irreducible] def rd_l_heights_right_3 : RS := rb_l_heights_right_3
theorem rx_l_heights_right_3 : rb_l_heights_right_3 = rd_l_heights_right_3 := by unfold rd_l_heights_right_3; rfl
def rb_l_heights_right_2 : RS := (rSeq (rSet 9 (rLc [10] (riSeq (rVar 8)) (rgName 10) rYes (rCall [false, false, false, false] sp_l_deed_height (rgAv (rVar 10) (rgAv (rVar 1) (rgAv (rVar 2) (rgAv (rVar 3) rgA0)))))))
  rd_l_heights_right_3)
@[irreducible] def rd_l_heights_right_2 : RS := rb_l_heights_right_2
theorem rx_l_heights_right_2 : rb_l_heights_right_2 = rd_l_heights_right_2 := by unfold rd_l_heights_right_2; rfl
def rb_l_heights_right_9 : RS := (rRet (rC (.bl true)))
@[irreducible] def rd_l_heights_right_9 : RS := rb_l_heights_right_9
theorem rx_l_heights_right_9 : rb_l_heights_right_9 = rd_l_heights_right_9 := by unfold rd_l_heights_right_9; rfl
def rd_l_heights_right : RS := (rSeq (rFor (rIW [5, 6, 7, 8, 9] (riEnumA (rfCons (rOp2 gIx (roV 0) (roE (rC (.int 1)))) rfNil))) (rgTup 2 (rgCons (rgName 5) (rgCons (rgTup 3 (rgCons (rgName 6) (rgCons (rgName 7) (rgCons (rgName 8) rgNil)))) rgNil))) (rBW [5, 6, 7, 8, 9] rd_l_heights_right_2))
  rd_l_heights_right_9)

section
variable {l : Land} {q : Rat} {pr : List Rat} {hs : List Int} {i : Nat} {s : St}
/-- an ending's height is its worth's -/
theorem best_end (hl : LandOk l) (hq : Shr q) (h : BestH l q pr hs) (e : l.sts[i]? = some s) (hd : s.ds = []) : (pV l q pr hs).getD i 0 = qdot pr s.e := by
  obtain ⟨z, ez, oz⟩ := h.row.at e
  rcases okH_cases oz with ⟨_, rfl⟩ | ⟨o, rfl, ho⟩
  · have := xV_due (pr := pr) hl hq h.row.1 e ez
    show xV l q pr hs i = _
    rw [this]
    unfold hgt wOf fsOf deedOf
    rw [if_pos (by decide)]
    show qdot pr s.e + 0 = _
    grind
  · rw [hd] at ho; simp at ho
/-- the first deed that comes up to the height -/
theorem best_first (hl : LandOk l) (hq : Shr q) (h : BestH l q pr hs) (e : l.sts[i]? = some s) (hd : s.ds ≠ []) : ∃ o : Nat, o < s.ds.length ∧ (tightS q pr (pV l q pr hs) s ((pV l q pr hs).getD i 0)).head? = some o ∧ hgt q pr (fun j => (pV l q pr hs).getD j 0) s (o : Int) = (pV l q pr hs).getD i 0 ∧ ∀ m, m < o → hgt q pr (fun j => (pV l q pr hs).getD j 0) s (m : Int) ≠ (pV l q pr hs).getD i 0 := by
  obtain ⟨z, ez, oz⟩ := h.row.at e
  rcases okH_cases oz with ⟨hd', _⟩ | ⟨o, rfl, ho⟩
  · exact absurd hd' hd
  have due : hgt q pr (fun j => (pV l q pr hs).getD j 0) s (o : Int) = (pV l q pr hs).getD i 0 := (xV_due (pr := pr) hl hq h.row.1 e ez).symm
  have key : ∀ (n b : Nat) (p : Nat → Bool), (∃ o, b ≤ o ∧ o < b + n ∧ p o = true) → ∃ o, o < b + n ∧ ((List.range' b n).filter p).head? = some o ∧ p o = true ∧ ∀ m, b ≤ m → m < o → p m = false := by
    intro n
    induction n with
    | zero => intro b p ⟨o, h1, h2, _⟩; omega
    | succ n ih =>
      intro b p ⟨o, h1, h2, h3⟩
      rw [List.range'_succ, List.filter_cons]
      cases hp : p b with
      | true => exact ⟨b, by omega, by rw [if_pos rfl]; rfl, hp, fun m a c => by omega⟩
      | false =>
        rw [if_neg (by decide)]
        have : o ≠ b := fun z => by rw [z, hp] at h3; cases h3
        obtain ⟨o', a1, a2, a3, a4⟩ := ih (b + 1) p ⟨o, by omega, by omega, h3⟩
        refine ⟨o', by omega, a2, a3, fun m c1 c2 => ?_⟩
        by_cases z : m = b
        · rw [z]; exact hp
        · exact a4 m (by omega) c2
  obtain ⟨o', a1, a2, a3, a4⟩ := key s.ds.length 0 (fun (o : Nat) => decide (hgt q pr (fun j => (pV l q pr hs).getD j 0) s (o : Int) = (pV l q pr hs).getD i 0)) ⟨o, by omega, by omega, decide_eq_true due⟩
  rw [← List.range_eq_range'] at a2
  exact ⟨o', by omega, a2, of_decide_eq_true a3, fun m hm => of_decide_eq_false (a4 m (by omega) hm)⟩
theorem bestL_at (e : l.sts[i]? = some s) : (bestL l q pr (pV l q pr hs))[i]? = some (match tightS q pr (pV l q pr hs) s ((pV l q pr hs).getD i 0) with | o :: _ => (o : Int) | [] => -1) := by
  unfold bestL tightL
  rw [List.getElem?_map, List.getElem?_map, List.getElem?_zipIdx, e]
  show some (match tightS q pr (pV l q pr hs) s ((pV l q pr hs).getD (0 + i) 0) with | o :: _ => (o : Int) | [] => -1) = _
  rw [Nat.zero_add]
theorem bestL_len : (bestL l q pr (pV l q pr hs)).length = l.sts.length := by
  unfold bestL tightL
  rw [List.length_map, List.length_map, List.length_zipIdx]
theorem bestL_end (e : l.sts[i]? = some s) (hd : s.ds = []) : (bestL l q pr (pV l q pr hs))[i]? = some (-1) := by
  rw [bestL_at e]
  unfold tightS
  rw [hd]; rfl
theorem bestL_first {o : Nat} (e : l.sts[i]? = some s) (h : (tightS q pr (pV l q pr hs) s ((pV l q pr hs).getD i 0)).head? = some o) : (bestL l q pr (pV l q pr hs))[i]? = some (o : Int) := by
  rw [bestL_at e]
  cases ht : tightS q pr (pV l q pr hs) s ((pV l q pr hs).getD i 0) with
  | nil => rw [ht] at h; cases h
  | cons a b => rw [ht] at h; cases h; rfl
theorem bestL_ok (hl : LandOk l) (hq : Shr q) (h : BestH l q pr hs) : RowOk l (bestL l q pr (pV l q pr hs)) := by
  refine row_of hl bestL_len fun i s z e1 e2 => ?_
  by_cases hd : s.ds = []
  · rw [bestL_end e1 hd] at e2
    cases e2
    show (if s.ds.isEmpty then _ else _) = true
    rw [hd]; rfl
  · obtain ⟨o, ho, hf, _⟩ := best_first hl hq h e1 hd
    rw [bestL_first e1 hf] at e2
    cases e2
    show (if s.ds.isEmpty then decide ((o : Int) = -1) else decide (0 ≤ (o : Int)) && decide ((o : Int) < s.ds.length)) = true
    have : s.ds.isEmpty = false := by
      cases hs : s.ds with
      | nil => exact absurd hs hd
      | cons _ _ => rfl
    rw [this, if_neg (by decide), decide_eq_true (by omega), decide_eq_true (by omega)]; rfl
/-- what it has is the heights -/
theorem bestL_same (hl : LandOk l) (hq : Shr q) (h : BestH l q pr hs) : pV l q pr (bestL l q pr (pV l q pr hs)) = pV l q pr hs := by
  have ok := bestL_ok hl hq h
  have eq : ∀ i s w, l.sts[i]? = some s → (bestL l q pr (pV l q pr hs))[i]? = some w → xV l q pr hs i = hgt q pr (xV l q pr hs) s w := fun i s w e1 e2 => by
    by_cases hd : s.ds = []
    · rw [bestL_end e1 hd] at e2
      cases e2
      obtain ⟨z, ez, oz⟩ := h.row.at e1
      rcases okH_cases oz with ⟨_, rfl⟩ | ⟨o, rfl, ho⟩
      · exact xV_due (pr := pr) hl hq h.row.1 e1 ez
      · rw [hd] at ho; simp at ho
    · obtain ⟨o, ho, hf, a, _⟩ := best_first hl hq h e1 hd
      rw [bestL_first e1 hf] at e2
      cases e2
      exact a.symm
  have a := xV_le (pr := pr) hl hq ok.1 (x := xV l q pr hs) fun i s w e1 e2 => by rw [← eq i s w e1 e2]; grind
  have b := xV_ge (pr := pr) hl hq ok.1 (x := xV l q pr hs) fun i s w e1 e2 => by rw [← eq i s w e1 e2]; grind
  have l1 := pV_len (pr := pr) hl hq h.row.1
  have l2 := pV_len (pr := pr) hl hq ok.1
  refine List.ext_getElem (by omega) fun i i1 i2 => ?_
  have a := a i (by omega)
  have b := b i (by omega)
  unfold xV at a b
  have c1 := gd_at i1
  have c2 := gd_at i2
  rw [List.getElem?_eq_getElem i1] at c1
  rw [List.getElem?_eq_getElem i2] at c2
  rw [Option.some.inj c1, Option.some.inj c2]
  grind
end
theorem rp_l_deed_height (ds : List D) (R : RR) (hl : ds.length = 4) (h : sp_l_deed_height ds R) : rd_l_deed_height (rho0 [false, false, false, false] 0 ds ++ List.replicate (7 - 4) .no) (endsOf [false, false, false, false] R) := by
  unfold sp_l_deed_height at h
  obtain ⟨l, q, pr, x, d, rfl, hok, hq, hp, hd, hx, hw, h⟩ := h
  have k4 := hok.k4
  have e := wt_qdot (allw_le hp.2 (show 21 ≤ 90 by decide)) hd.wts
  rw [hp.1] at e
  have e1 := Nat.mul_le_mul_right (2 * 90 + 1) k4
  have qw := hq.wt
  unfold dDeed
  walk_at "z"
  refine sp_priced.mk 90 (by rw [hp.1]; omega) (by rw [hp.1]; omega) (allw_le hp.2 (by decide)) hd.wts ?_
  walk_at "z"
  refine lit7 rfl ?_
  rw [← rx_l_deed_height_2]
  walk_at "zz"
  refine forL_fold (g := dF) (st := fun t => [.fz (dDeed d), .fz (dq q), .fz (dw pr), .fz (dC x), .fz (dq t), .no, .no]) (f := fun t f => t + q * f.2 * x.getD f.1 0)
    (P := fun t zs => (∃ a, wt t ≤ a ∧ a + zs.length * 10200017 ≤ 45000000) ∧ ∀ f ∈ zs, f.1 < l.sts.length ∧ wt f.2 ≤ 6) (fun t f zs N hP hN => ?_) d.fs (qdot pr d.w) ⟨⟨_, Nat.le_refl _, ?_⟩, fun f hf => ⟨hd.fol.lt f hf, hd.fol.wt f hf⟩⟩ (fun _ => ?_)
  · obtain ⟨⟨a, h1, h2⟩, h3⟩ := hP
    obtain ⟨h4, h5⟩ := h3 f (by simp)
    rw [List.length_cons, Nat.succ_mul] at h2
    have g := allw_at hw (show f.1 < x.length by omega)
    have m1 := wt_mul q f.2
    have m2 := wt_mul (q * f.2) (x.getD f.1 0)
    have m3 := wt_add t (q * f.2 * x.getD f.1 0)
    have m4 := wt_mul (x.getD f.1 0) (q * f.2)
    unfold dF
    walk_at "z"
    refine lit7 rfl ?_
    rw [← rx_l_deed_height_3]
    walk_at "z"
    refine ⟨_, atI_mp (gd_at (show f.1 < x.length by omega)), ?_⟩
    walk_at "z"
    refine sp_times.mk (by omega) ?_
    walk_at "z"
    refine sp_times.mk (by omega) ?_
    walk_at "z"
    refine sp_plus.mk (by omega) ?_
    rw [Rat.mul_comm (x.getD f.1 0)]
    exact ⟨_, rfl, rfl, rfl, hN ⟨⟨_, Nat.le_trans m3 (show _ ≤ a + 10200017 by omega), by omega⟩, fun y hy => h3 y (List.mem_cons_of_mem _ hy)⟩⟩
  · have := Nat.mul_le_mul_right 10200017 hd.fol.len
    omega
  · rw [← rx_l_deed_height_4, hsum_fold]
    exact ⟨_, rfl, h⟩

theorem okC (r : List Rat) : (dC r).ok 64 = true := by
  show (r.map dq).all (D.ok 63) = true
  rw [List.all_eq_true]
  intro d hd
  obtain ⟨q, _, rfl⟩ := List.mem_map.mp hd
  rfl
theorem hr_body (l : Land) (q : Rat) (pr : List Rat) (hs : List Int) (hok : LandOk l) (hq : Shr q) (hp : PrL l pr) (hb : BestH l q pr hs) (i : Nat) (s : St) (e : l.sts[i]? = some s) (E : EN)
    (hE : E.nx [.fz (dLand l), .fz (dq q), .fz (dw pr), .fz (dC (pV l q pr hs)), .fz (.tup ((bestL l q pr (pV l q pr hs)).map .int)), .no, .no, .no, .no, .no, .no, .no]) :
    rBW [5, 6, 7, 8, 9] rd_l_heights_right_2 [.fz (dLand l), .fz (dq q), .fz (dw pr), .fz (dC (pV l q pr hs)), .fz (.tup ((bestL l q pr (pV l q pr hs)).map .int)), .fz (.int (i : Nat)), .fz (.int s.c), .fz (dw s.e), .fz (.lst (s.ds.map dDeed)), .no, .no, .no] E := by
  have hm := List.mem_of_getElem? e
  have st := hok.sts s hm
  have few := st.few
  have len := pV_len (pr := pr) hok hq hb.row.1
  have wts := pV_wt hok hq hb.row.1 hp
  have hi : i < l.sts.length := (List.getElem?_eq_some_iff.mp e).1
  have k4 := hok.k4
  have eT := gd_at (show i < (pV l q pr hs).length by omega)
  have wT := allw_at wts (show i < (pV l q pr hs).length by omega)
  have em : s.ds.map (fun d => dq (hgtD q pr (pV l q pr hs) d)) = (s.ds.map (hgtD q pr (pV l q pr hs))).map dq := by rw [List.map_map]; rfl
  unfold rBW
  rw [← rx_l_heights_right_2]
  walk_at "z"
  refine lcL_map' (g := dDeed) (f := fun d => dq (hgtD q pr (pV l q pr hs) d)) (ρw := [.fz (dLand l), .fz (dq q), .fz (dw pr), .fz (dC (pV l q pr hs)), .fz (.tup ((bestL l q pr (pV l q pr hs)).map .int)), .fz (.int (i : Nat)), .fz (.int s.c), .fz (dw s.e), .fz (.lst (s.ds.map dDeed)), .no, .no, .no]) (xs := s.ds) (by omega) (fun d hd n2 P N3 hn hP => ?_) rfl (fun ρ' h' => ?_)
  · walk_at "z"
    refine sp_l_deed_height.mk l hok hq hp (st.ds d hd) len wts ?_
    walk_at "z"
    exact ⟨hn, hP _ rfl⟩
  rw [restE_wipe, h', em]
  walk_at "z"
  show rd_l_heights_right_3 [.fz (dLand l), .fz (dq q), .fz (dw pr), .fz (dC (pV l q pr hs)), .fz (.tup ((bestL l q pr (pV l q pr hs)).map .int)), .fz (.int (i : Nat)), .fz (.int s.c), .fz (dw s.e), .fz (.lst (s.ds.map dDeed)), .ow 1 (dC (s.ds.map (hgtD q pr (pV l q pr hs)))), .no, .no] _
  rw [← rx_l_heights_right_3]
  by_cases hd : s.ds = []
  · have b1 := bestL_end (q := q) (pr := pr) (hs := hs) e hd
    have t1 := best_end hok hq hb e hd
    rw [hd]
    walk_at "z"
    refine ⟨_, atI_mp eT, ?_⟩
    walk_at "z"
    refine sp_priced.mk 21 (by rw [hp.1]; omega) (by rw [hp.1]; omega) hp.2 st.wts ?_
    walk_at "z"
    rw [eqb_dq, t1, decide_eq_true rfl]
    walk_at "z"
    refine ⟨_, atI_mp b1, ?_⟩
    walk_at "z"
    refine lit12 rfl ?_
    rw [← rx_l_heights_right_5]
    walk_at "z"
    show rd_l_heights_right_7 [.fz (dLand l), .fz (dq q), .fz (dw pr), .fz (dC (pV l q pr hs)), .fz (.tup ((bestL l q pr (pV l q pr hs)).map .int)), .fz (.int (i : Nat)), .fz (.int s.c), .fz (dw s.e), .fz (.lst []), .fz (dC []), .no, .no] _
    rw [← rx_l_heights_right_7]
    walk_at "z"
    exact hE
  · obtain ⟨o, ho, hf, ha, hno⟩ := best_first hok hq hb e hd
    have b1 := bestL_first (q := q) (pr := pr) (hs := hs) e hf
    have top := hb.top i s
    obtain ⟨d0, dt, ed⟩ := List.exists_cons_of_ne_nil hd
    have en : (!(s.ds.map dDeed).isEmpty) = true := by rw [ed]; rfl
    have at_ : ∀ m, m < s.ds.length → (s.ds.map (hgtD q pr (pV l q pr hs)))[m]? = some (hgt q pr (fun j => (pV l q pr hs).getD j 0) s (m : Int)) := fun m hm => by
      have em : s.ds[m]? = some s.ds[m] := List.getElem?_eq_getElem hm
      rw [List.getElem?_map, em, hgtD_at em]; rfl
    walk_at "z"
    show way ((s.ds.map dDeed).isEmpty) _ _
    rw [show (s.ds.map dDeed).isEmpty = false by rw [ed]; rfl]
    walk_at "z"
    refine lit12 rfl ?_
    rw [← rx_l_heights_right_5]
    walk_at "z"
    show way (!(s.ds.map dDeed).isEmpty) _ _
    rw [show (s.ds.map dDeed).isEmpty = false by rw [ed]; rfl]
    walk_at "z"
    refine ⟨_, atI_mp eT, ?_⟩
    walk_at "z"
    refine ⟨okC _, ?_⟩
    have anyT : ((s.ds.map (hgtD q pr (pV l q pr hs))).map dq).any (fun z => eqb z (dq ((pV l q pr hs).getD i 0))) = true := by
      rw [List.any_map, List.any_eq_true]
      refine ⟨_, List.mem_of_getElem? (at_ o ho), ?_⟩
      show eqb (dq _) (dq _) = true
      rw [eqb_dq, ha]
      exact decide_eq_true rfl
    show way (!((s.ds.map (hgtD q pr (pV l q pr hs))).map dq).any (fun z => eqb z (dq ((pV l q pr hs).getD i 0)))) _ _
    rw [anyT]
    walk_at "z"
    refine lcL_map' (g := dq) (f := fun _ => .bl false) (ρw := [.fz (dLand l), .fz (dq q), .fz (dw pr), .fz (dC (pV l q pr hs)), .fz (.tup ((bestL l q pr (pV l q pr hs)).map .int)), .fz (.int (i : Nat)), .fz (.int s.c), .fz (dw s.e), .fz (.lst (s.ds.map dDeed)), .fz (dC (s.ds.map (hgtD q pr (pV l q pr hs)))), .no, .no]) (xs := s.ds.map (hgtD q pr (pV l q pr hs))) (by rw [List.length_map]; omega) (fun v hv n2 P N3 hn hP => ?_) rfl (fun ρ' h' => ?_)
    · obtain ⟨m, hm2⟩ := List.mem_iff_getElem?.mp hv
      have ml : m < s.ds.length := by
        have := (List.getElem?_eq_some_iff.mp hm2).1
        rw [List.length_map] at this
        exact this
      have e1 := at_ m ml
      rw [hm2] at e1
      have e1 := Option.some.inj e1
      have tp := top m e ml
      have wv : wt v ≤ 45000000 := by
        obtain ⟨d, hd2, rfl⟩ := List.mem_map.mp hv
        exact hgtD_wt hok hq hp (st.ds d hd2) len wts
      have tp : v ≤ (pV l q pr hs).getD i 0 := by rw [e1]; exact tp
      walk_at "z"
      refine ⟨_, atI_mp eT, ?_⟩
      walk_at "z"
      refine sp_is_less.mk (by omega) ?_
      rw [decide_eq_false (by grind)]
      walk_at "z"
      exact ⟨hn, hP _ rfl⟩
    rw [restE_wipe, h']
    walk_at "z"
    refine ⟨_, blsOf_map (fun _ => false) (s.ds.map (hgtD q pr (pV l q pr hs))), ?_⟩
    have e2 : ((s.ds.map (hgtD q pr (pV l q pr hs))).map (fun _ => false)).any id = false := by rw [List.any_map]; exact List.any_eq_false.mpr fun _ _ z => Bool.noConfusion (show false = true from z)
    simp only [e2]
    walk_at "z"
    show rd_l_heights_right_7 [.fz (dLand l), .fz (dq q), .fz (dw pr), .fz (dC (pV l q pr hs)), .fz (.tup ((bestL l q pr (pV l q pr hs)).map .int)), .fz (.int (i : Nat)), .fz (.int s.c), .fz (dw s.e), .fz (.lst (s.ds.map dDeed)), .fz (dC (s.ds.map (hgtD q pr (pV l q pr hs)))), .no, .no] _
    rw [← rx_l_heights_right_7]
    walk_at "z"
    show way (!(s.ds.map dDeed).isEmpty) _ _
    rw [show (s.ds.map dDeed).isEmpty = false by rw [ed]; rfl]
    walk_at "z"
    refine ⟨_, atI_mp b1, ?_⟩
    walk_at "z"
    refine ⟨⟨_, rfl⟩, ?_⟩
    walk_at "z"
    refine ⟨_, atI_mp eT, ?_⟩
    refine ⟨dq ((pV l q pr hs).getD i 0), (s.ds.map (hgtD q pr (pV l q pr hs))).map dq, o, rfl, rfl, okC _, rfl, ⟨_, by rw [List.getElem?_map, at_ o ho]; rfl, by rw [eqb_dq, ha]; exact decide_eq_true rfl, fun m z' hm2 hz => ?_⟩, ?_⟩
    · rw [List.getElem?_map, at_ m (by omega)] at hz
      cases hz
      rw [eqb_dq]
      exact decide_eq_false (hno m hm2)
    walk_at "z"
    rw [eqb_int, decide_eq_true rfl]
    walk_at "z"
    exact hE
theorem rp_l_heights_right (ds : List D) (R : RR) (hl : ds.length = 5) (h : sp_l_heights_right ds R) : rd_l_heights_right (rho0 [false, false, false, false, false] 0 ds ++ List.replicate (12 - 5) .no) (endsOf [false, false, false, false, false] R) := by
  unfold sp_l_heights_right at h
  obtain ⟨l, q, pr, hs, rfl, hok, hq, hp, hb, h⟩ := h
  have n8 := hok.n8
  have eL : dLand l = .tup [.int l.k, .lst (l.sts.map dSt)] := rfl
  rw [eL]
  walk_at "zz"
  rw [enumL_map]
  refine forL_fold (g := fun y : St × Nat => D.tup [.int (y.2 : Nat), dSt y.1]) (st := fun _ : Unit => [.fz (dLand l), .fz (dq q), .fz (dw pr), .fz (dC (pV l q pr hs)), .fz (.tup ((bestL l q pr (pV l q pr hs)).map .int)), .no, .no, .no, .no, .no, .no, .no])
    (f := fun _ _ => ()) (P := fun _ zs => ∀ y ∈ zs, l.sts[y.2]? = some y.1) (fun _ y zs N hP hN => ?_) (l.sts.zipIdx 0) () (fun y hy => ?_) (fun _ => ?_)
  · refine ⟨rfl, rfl, ?_⟩
    unfold dSt
    refine ⟨rfl, rfl, rfl, rfl, ?_⟩
    exact hr_body l q pr hs hok hq hp hb y.2 y.1 (hP y (by simp)) _ (hN fun z hz => hP z (List.mem_cons_of_mem _ hz))
  · have := List.mem_zipIdx hy
    obtain ⟨_, h2, h3⟩ := this
    rw [List.getElem?_eq_getElem (by omega), h3]
    simp
  · rw [← rx_l_heights_right_9]
    exact ⟨_, rfl, h⟩

def rb_law_19 : RS := (rIf (rTb (rLend (rCB (gBls fun l => l.any id) (raCons (roE (rLc [14, 13] (riZipA (rfCons (rVar 8) (rfCons (rVar 11) rfNil))) (rgTup 2 (rgCons (rgName 14) (rgCons (rgName 13) rgNil))) rYes (rCall [false, false] sp_l_less (rgAv (rVar 14) (rgAv (rCall [false, false] sp_l_priced (rgAv (rVar 6) (rgAv (rVar 13) rgA0))) rgA0))))) raNil)))) (rRet (rC (.bl false))) rNext)
@[irreducible] def rd_law_19 : RS := rb_law_19
theorem rx_law_19 : rb_law_19 = rd_law_19 := by unfold rd_law_19; rfl
def rb_law_18 : RS := (rSeq (rSet 11 (rCall [false, false, false] sp_habit_sums (rgAv (rVar 4) (rgAv (rVar 5) (rgAv (rCall [true, false] sp_l_habit (rgAs 2 (rgAv (rVar 4) rgA0))) rgA0)))))
  rd_law_19)
@[irreducible] def rd_law_18 : RS := rb_law_18
theorem rx_law_18 : rb_law_18 = rd_law_18 := by unfold rd_law_18; rfl
def rb_law_23 : RS := (rIf (rTb (rOp2 gNe (roE (rCall [false, false, false] sp_endless_heights (rgAv (rVar 4) (rgAv (rVar 5) (rgAv (rVar 6) rgA0))))) (roV 12))) (rRet (rC (.bl false))) rNext)
@[irreducible] def rd_law_23 : RS := rb_law_23
theorem rx_law_23 : rb_law_23 = rd_law_23 := by unfold rd_law_23; rfl
def rb_law_22 : RS := (rSeq (rDrop (rMet 8 gClear raNil))
  rd_law_23)
@[irreducible] def rd_law_22 : RS := rb_law_22
theorem rx_law_22 : rb_law_22 = rd_law_22 := by unfold rd_law_22; rfl
def rb_law_21 : RS := (rSeq (rSet 12 (rCB gListOf (raCons (roV 8) raNil)))
  rd_law_22)
@[irreducible] def rd_law_21 : RS := rb_law_21
theorem rx_law_21 : rb_law_21 = rd_law_21 := by unfold rd_law_21; rfl
def rb_law_17 : RS := (rSeq (rFor (rIW [10, 11] (riRng1 (rfCons (rC (.int 3)) rfNil))) (rgName 10) (rBW [10, 11] rd_law_18))
  rd_law_21)
@[irreducible] def rd_law_17 : RS := rb_law_17
theorem rx_law_17 : rb_law_17 = rd_law_17 := by unfold rd_law_17; rfl
def rb_law_15 : RS := (rSeq (rIf (rTb (rOp2 gNe (roE (rLc [13] (riSeq (rCall [false, false, false] sp_habit_sums (rgAv (rVar 4) (rgAv (rVar 5) (rgAv (rVar 9) rgA0))))) (rgName 13) rYes (rCall [false, false] sp_l_priced (rgAv (rVar 6) (rgAv (rVar 13) rgA0))))) (roV 8))) (rRet (rC (.bl false))) rNext)
  rd_law_17)
@[irreducible] def rd_law_15 : RS := rb_law_15
theorem rx_law_15 : rb_law_15 = rd_law_15 := by unfold rd_law_15; rfl
def rb_law_13 : RS := (rSeq (rIf (rNot (rTb (rLend (rCall [false, false, false, false, false] sp_l_heights_right (rgAv (rVar 4) (rgAv (rVar 5) (rgAv (rVar 6) (rgAv (rVar 8) (rgAv (rVar 9) rgA0))))))))) (rRet (rC (.bl false))) rNext)
  rd_law_15)
@[irreducible] def rd_law_13 : RS := rb_law_13
theorem rx_law_13 : rb_law_13 = rd_law_13 := by unfold rd_law_13; rfl
def rb_law_11 : RS := (rSeq (rIf (rOr (rTb (rOp2 gNe (roE (rCB gLen (raCons (roV 9) raNil))) (roE (rCB gLen (raCons (roV 8) raNil))))) (rTb (rOp2 gNeS (roE (rCB gShowA (raCons (roV 4) raNil))) (roV 7)))) (rRet (rC (.bl false))) rNext)
  rd_law_13)
@[irreducible] def rd_law_11 : RS := rb_law_11
theorem rx_law_11 : rb_law_11 = rd_law_11 := by unfold rd_law_11; rfl
def rb_law_9 : RS := (rSeq (rIf (rOr (rNot (rTb (rCB gIsi (raCons (roV 8) (raCons (roE (rC (.opq (.ty "list")))) raNil))))) (rOr (rTb (rOp2 gNe (roE (rCB gLen (raCons (roV 8) raNil))) (roE (rCB gLen (raCons (roE (rOp2 gIx (roV 4) (roE (rC (.int 1))))) raNil))))) (rNot (rTb (rCB gIsi (raCons (roV 9) (raCons (roE (rC (.opq (.ty "tuple")))) raNil))))))) (rRet (rC (.bl false))) rNext)
  rd_law_11)
@[irreducible] def rd_law_9 : RS := rb_law_9
theorem rx_law_9 : rb_law_9 = rd_law_9 := by unfold rd_law_9; rfl
def rb_law_8 : RS := (rSeq (rSet 9 (rCall [false, false, false] sp_best_habit (rgAv (rVar 4) (rgAv (rVar 5) (rgAv (rVar 6) rgA0)))))
  rd_law_9)
@[irreducible] def rd_law_8 : RS := rb_law_8
theorem rx_law_8 : rb_law_8 = rd_law_8 := by unfold rd_law_8; rfl
def rb_law_7 : RS := (rSeq (rSet 8 (rCall [false, false, false] sp_endless_heights (rgAv (rVar 4) (rgAv (rVar 5) (rgAv (rVar 6) rgA0)))))
  rd_law_8)
@[irreducible] def rd_law_7 : RS := rb_law_7
theorem rx_law_7 : rb_law_7 = rd_law_7 := by unfold rd_law_7; rfl
def rb_law_6 : RS := (rSeq (rAsg (rTup1 (rfCons (rCall [true, false] sp_l_worth (rgAs 2 (rgAv (rVar 3) rgA0))) (rfCons (rCB gShowA (raCons (roV 4) raNil)) rfNil))) (rgTup 2 (rgCons (rgName 6) (rgCons (rgName 7) rgNil))))
  rd_law_7)
@[irreducible] def rd_law_6 : RS := rb_law_6
theorem rx_law_6 : rb_law_6 = rd_law_6 := by unfold rd_law_6; rfl
def rb_law_5 : RS := (rSeq (rSet 5 (rCall [true] sp_l_share (rgAs 2 rgA0)))
  rd_law_6)
@[irreducible] def rd_law_5 : RS := rb_law_5
theorem rx_law_5 : rb_law_5 = rd_law_5 := by unfold rd_law_5; rfl
def rb_law_4 : RS := (rSeq (rSet 4 (rCall [true, false] sp_l_doubled (rgAs 2 (rgAv (rCall [true, false] sp_l_many_deeds (rgAs 2 (rgAv (rCall [true, false, false] sp_l_land (rgAs 2 (rgAv (rVar 3) (rgAv (rC (.int 4)) rgA0)))) rgA0))) rgA0))))
  rd_law_5)
@[irreducible] def rd_law_4 : RS := rb_law_4
theorem rx_law_4 : rb_law_4 = rd_law_4 := by unfold rd_law_4; rfl
def rb_law_3 : RS := (rSeq (rSet 3 (rOp2 gAddA (roE (rC (.int 1))) (roE (rCall [true, false] sp_l_draw (rgAs 2 (rgAv (rC (.int 4)) rgA0))))))
  rd_law_4)
@[irreducible] def rd_law_3 : RS := rb_law_3
theorem rx_law_3 : rb_law_3 = rd_law_3 := by unfold rd_law_3; rfl
def rb_law_2 : RS := (rSeq (rSet 2 (rCall [false, false] sp_l_begun (rgAv (rVar 0) (rgAv (rVar 1) rgA0))))
  rd_law_3)
@[irreducible] def rd_law_2 : RS := rb_law_2
theorem rx_law_2 : rb_law_2 = rd_law_2 := by unfold rd_law_2; rfl
def rb_law_25 : RS := (rRet (rC (.bl true)))
@[irreducible] def rd_law_25 : RS := rb_law_25
theorem rx_law_25 : rb_law_25 = rd_law_25 := by unfold rd_law_25; rfl
def rd_law : RS := (rSeq (rFor (rIW [1, 2, 3, 4, 5, 6, 7, 8, 9, 10, 11, 12] (riRng1 (rfCons (rCB gMax (raCons (roE (rC (.int 1))) (raCons (roE (rCB gMin (raCons (roE (rCB gLen (raCons (roV 0) raNil))) (raCons (roE (rC (.int 4))) raNil)))) raNil))) rfNil))) (rgName 1) (rBW [1, 2, 3, 4, 5, 6, 7, 8, 9, 10, 11, 12] rd_law_2))
  rd_law_25)

theorem zipL_map60 {α β : Type} (f : α → D) (g : β → D) : ∀ (xs : List α) (ys : List β), zipL (xs.map f) (ys.map g) = (xs.zip ys).map fun p => D.tup [f p.1, g p.2]
  | [], _ => rfl
  | _ :: _, [] => rfl
  | x :: xs, y :: ys => by
    show D.tup [f x, g y] :: zipL (xs.map f) (ys.map g) = _
    rw [zipL_map60 f g xs ys]; rfl
theorem eqbs_dq : ∀ a : List Rat, eqbs (a.map dq) (a.map dq) = true
  | [] => rfl
  | x :: a => by
    show (eqb (dq x) (dq x) && eqbs (a.map dq) (a.map dq)) = true
    rw [eqb_dq, decide_eq_true rfl, eqbs_dq a]; rfl
theorem eqb_dC {a : List Rat} : eqb (dC a) (dC a) = true := eqbs_dq a
theorem pV_map {l : Land} {q : Rat} {pr : List Rat} {ks : List Int} : (habS l q ks).map (fun w => dq (qdot pr w)) = (pV l q pr ks).map dq := by unfold pV; rw [List.map_map]; rfl
theorem landW_show {l : Land} (h : LandOk l) {Q : D → Nat → Prop} (hq : Q (.str (dLand l).px.shown) 0) : gShowA [dLand l] Q := gShowA.to (dab_dat (C := 900) (by decide) (by decide) (land_dab h)) (by decide) (by decide) (by have := land_sz h; omega) hq
theorem k60_21 (x0 x1 t : Sl) (x3 x7 x9 : Sl) (l : Land) (q : Rat) (pr : List Rat) (hs : List Int) (hok : LandOk l) (hq : Shr q) (hp : PrL l pr) (hb : BestH l q pr hs) (E : EN)
    (hE : E.nx [x0, x1, t, x3, .fz (dLand l), .fz (dq q), .fz (dw pr), x7, .ow 1 (.lst []), x9, .no, .no, .ow 1 (dC (pV l q pr hs)), .no, .no]) :
    rd_law_21 [x0, x1, t, x3, .fz (dLand l), .fz (dq q), .fz (dw pr), x7, .ow 1 (dC (pV l q pr hs)), x9, .no, .no, .no, .no, .no] E := by
  have same := fun ks hk => best_same (ks := ks) hok hq hb hk
  have len := pV_len (pr := pr) hok hq hb.row.1
  have n8 := hok.n8
  rw [← rx_law_21]
  walk_at "z"
  show rd_law_22 [x0, x1, t, x3, .fz (dLand l), .fz (dq q), .fz (dw pr), x7, .ow 1 (dC (pV l q pr hs)), x9, .no, .no, .ow 1 (dC (pV l q pr hs)), .no, .no] E
  rw [← rx_law_22]
  walk_at "z"
  show rd_law_23 [x0, x1, t, x3, .fz (dLand l), .fz (dq q), .fz (dw pr), x7, .ow 1 (.lst []), x9, .no, .no, .ow 1 (dC (pV l q pr hs)), .no, .no] E
  rw [← rx_law_23]
  walk_at "z"
  refine sp_endless_heights.mk hok hq hp fun ks hk => ?_
  rw [same ks hk]
  walk_at "z"
  refine ⟨okC _, okC _, ?_⟩
  rw [eqb_dC]
  walk_at "z"
  exact hE
theorem k60_18 (x0 x1 x3 x7 x9 x10 : Sl) (t : Tp) (c : Nat) (ht : t.ok (c + 8)) (l : Land) (q : Rat) (pr : List Rat) (hs : List Int) (hok : LandOk l) (hq : Shr q) (hp : PrL l pr) (hb : BestH l q pr hs) (E : EN)
    (hE : ∀ (t' : Tp) (x11 : D), t'.ok c → E.nx [x0, x1, .ow 1 (dT t'), x3, .fz (dLand l), .fz (dq q), .fz (dw pr), x7, .ow 1 (dC (pV l q pr hs)), x9, x10, .ow 1 x11, .no, .no, .no]) :
    rd_law_18 [x0, x1, .ow 1 (dT t), x3, .fz (dLand l), .fz (dq q), .fz (dw pr), x7, .ow 1 (dC (pV l q pr hs)), x9, x10, .no, .no, .no, .no] E := by
  have len := pV_len (pr := pr) hok hq hb.row.1
  have wts := pV_wt hok hq hb.row.1 hp
  have n8 := hok.n8
  have k4 := hok.k4
  rw [← rx_law_18]
  walk_at "z"
  refine sp_l_habit.mk c hok ht fun ks t' hk ht' => ?_
  walk_at "z"
  refine sp_habit_sums.mk hok hk hq ?_
  have hw1 := habS_wt hok hq hk.1
  walk_at "z"
  show rd_law_19 [x0, x1, .ow 1 (dT t'), x3, .fz (dLand l), .fz (dq q), .fz (dw pr), x7, .ow 1 (dC (pV l q pr hs)), x9, x10, .ow 1 (dWs (habS l q ks)), .no, .no, .no] E
  rw [← rx_law_19]
  unfold dWs
  walk_at "z"
  rw [zipL_map60 dq dw]
  refine lcL_map' (g := fun p : Rat × List Rat => D.tup [dq p.1, dw p.2]) (f := fun _ => .bl false) (ρw := [lendS x0, lendS x1, .fz (dT t'), lendS x3, .fz (dLand l), .fz (dq q), .fz (dw pr), lendS x7, .fz (dC (pV l q pr hs)), lendS x9, lendS x10, .fz (dWs (habS l q ks)), .no, .no, .no]) (xs := (pV l q pr hs).zip (habS l q ks)) (by rw [List.length_zip]; omega) (fun p hp2 n2 P N3 hn hP => ?_) rfl (fun ρ' h' => ?_)
  · obtain ⟨j, hj⟩ := List.mem_iff_getElem?.mp hp2
    obtain ⟨e1, e2⟩ := List.getElem?_zip_eq_some.mp hj
    obtain ⟨v, w⟩ := p
    have hj1 : j < l.sts.length := by rw [← len]; exact (List.getElem?_eq_some_iff.mp e1).1
    have wv : wt v ≤ 10200000 := wts v (List.mem_of_getElem? e1)
    obtain ⟨w1, w2⟩ := hw1.2 w (List.mem_of_getElem? e2)
    have wq := pV_wt hok hq hk.1 hp (qdot pr w) (List.mem_map.mpr ⟨w, List.mem_of_getElem? e2, rfl⟩)
    have ge := best_ge hok hq hb hk j hj1
    have ev : xV l q pr hs j = v := by
      have := gd_at (show j < (pV l q pr hs).length by omega)
      rw [e1] at this
      exact (Option.some.inj this).symm
    have ew : xV l q pr ks j = qdot pr w := by
      rw [xV_at hok hq hk.1 hj1, List.getD_eq_getElem?_getD, e2]; rfl
    rw [ev, ew] at ge
    walk_at "z"
    refine sp_priced.mk 1270000 (by rw [hp.1]; omega) (by rw [hp.1]; have := Nat.mul_le_mul_right (2 * 1270000 + 1) k4; omega) (allw_le hp.2 (by decide)) w2 ?_
    walk_at "z"
    refine sp_is_less.mk (by show wt v + wt (qdot pr w) ≤ 100000000; omega) ?_
    rw [decide_eq_false (by show ¬ v < qdot pr w; grind)]
    walk_at "z"
    exact ⟨hn, hP _ rfl⟩
  rw [restE_wipe, h']
  walk_at "z"
  refine ⟨_, blsOf_map (fun _ => false) ((pV l q pr hs).zip (habS l q ks)), ?_⟩
  have e2 : (((pV l q pr hs).zip (habS l q ks)).map (fun _ => false)).any id = false := by rw [List.any_map]; exact List.any_eq_false.mpr fun _ _ z => Bool.noConfusion (show false = true from z)
  simp only [e2]
  walk_at "z"
  exact hE t' _ ht'
theorem k60_7 (x0 x1 x3 x7 : Sl) (t : Tp) (c : Nat) (ht : t.ok (c + 24)) (l : Land) (q : Rat) (pr : List Rat) (hok : LandOk l) (hq : Shr q) (hp : PrL l pr) (E : EN)
    (hE : ∀ (t' : Tp) (x9 x12 : D), E.nx [x0, x1, .ow 1 (dT t'), x3, .fz (dLand l), .fz (dq q), .fz (dw pr), x7, .ow 1 (.lst []), .fz x9, .no, .no, .ow 1 x12, .no, .no]) (hx7 : x7 = .fz (.str (dLand l).px.shown)) :
    rd_law_7 [x0, x1, .ow 1 (dT t), x3, .fz (dLand l), .fz (dq q), .fz (dw pr), x7, .no, .no, .no, .no, .no, .no, .no] E := by
  subst hx7
  have n8 := hok.n8
  have k4 := hok.k4
  rw [← rx_law_7]
  walk_at "z"
  refine sp_endless_heights.mk hok hq hp fun hs hb => ?_
  have len := pV_len (pr := pr) hok hq hb.row.1
  walk_at "z"
  show rd_law_8 [x0, x1, .ow 1 (dT t), x3, .fz (dLand l), .fz (dq q), .fz (dw pr), .fz (.str (dLand l).px.shown), .ow 1 (dC (pV l q pr hs)), .no, .no, .no, .no, .no, .no] _
  rw [← rx_law_8]
  walk_at "z"
  refine sp_best_habit.mk hok hq hp fun hs2 hb2 => ?_
  rw [best_same hok hq hb hb2]
  walk_at "z"
  have bok := bestL_ok hok hq hb
  have bl := bok.1
  show rd_law_9 [x0, x1, .ow 1 (dT t), x3, .fz (dLand l), .fz (dq q), .fz (dw pr), .fz (.str (dLand l).px.shown), .ow 1 (dC (pV l q pr hs)), .fz (.tup ((bestL l q pr (pV l q pr hs)).map .int)), .no, .no, .no, .no, .no] _
  rw [← rx_law_9]
  have eL : dLand l = .tup [.int l.k, .lst (l.sts.map dSt)] := rfl
  unfold dLand
  walk_at "z"
  have e5 : (!eqb (D.int (((pV l q pr hs).map dq).length : Nat)) (D.int ((l.sts.map dSt).length : Nat))) = false := by
    rw [eqb_int, List.length_map, List.length_map, len, decide_eq_true rfl]; rfl
  rw [e5]
  walk_at "z"
  show rd_law_11 [x0, x1, .ow 1 (dT t), x3, .fz (dLand l), .fz (dq q), .fz (dw pr), .fz (.str (dLand l).px.shown), .ow 1 (dC (pV l q pr hs)), .fz (.tup ((bestL l q pr (pV l q pr hs)).map .int)), .no, .no, .no, .no, .no] _
  have hsh := fun {Q} (z : Q (.str (dLand l).px.shown) 0) => landW_show (Q := Q) hok z
  generalize (dLand l).px.shown = T at *
  rw [← rx_law_11]
  walk_at "z"
  have e6 : (!eqb (D.int (((bestL l q pr (pV l q pr hs)).map D.int).length : Nat)) (D.int (((pV l q pr hs).map dq).length : Nat))) = false := by
    rw [eqb_int, List.length_map, List.length_map, len, bl, decide_eq_true rfl]; rfl
  rw [e6]
  walk_at "z"
  refine hsh ?_
  walk_at "z"
  show way (!decide (T = T)) _ _
  rw [decide_eq_true rfl]
  walk_at "z"
  show rd_law_13 [x0, x1, .ow 1 (dT t), x3, .fz (dLand l), .fz (dq q), .fz (dw pr), .fz (.str T), .ow 1 (dC (pV l q pr hs)), .fz (.tup ((bestL l q pr (pV l q pr hs)).map .int)), .no, .no, .no, .no, .no] _
  rw [← rx_law_13]
  walk_at "z"
  refine sp_l_heights_right.mk hok hq hp hb ?_
  walk_at "z"
  show rd_law_15 [x0, x1, .ow 1 (dT t), x3, .fz (dLand l), .fz (dq q), .fz (dw pr), .fz (.str T), .ow 1 (dC (pV l q pr hs)), .fz (.tup ((bestL l q pr (pV l q pr hs)).map .int)), .no, .no, .no, .no, .no] _
  rw [← rx_law_15]
  walk_at "z"
  refine sp_habit_sums.mk hok bok hq ?_
  have hw1 := habS_wt hok hq bok.1
  walk_at "z"
  refine lcL_map' (g := dw) (f := fun w => dq (qdot pr w)) (ρw := [x0, x1, .ow 1 (dT t), x3, .fz (dLand l), .fz (dq q), .fz (dw pr), .fz (.str T), .ow 1 (dC (pV l q pr hs)), .fz (.tup ((bestL l q pr (pV l q pr hs)).map .int)), .no, .no, .no, .no, .no]) (xs := habS l q (bestL l q pr (pV l q pr hs))) (by rw [hw1.1]; omega) (fun w hw2 n2 P N3 hn hP => ?_) rfl (fun ρ' h' => ?_)
  · obtain ⟨w1, w2⟩ := hw1.2 w hw2
    walk_at "z"
    refine sp_priced.mk 1270000 (by rw [hp.1]; omega) (by rw [hp.1]; have := Nat.mul_le_mul_right (2 * 1270000 + 1) k4; omega) (allw_le hp.2 (by decide)) w2 ?_
    walk_at "z"
    exact ⟨hn, hP _ rfl⟩
  have em : (habS l q (bestL l q pr (pV l q pr hs))).map (fun w => dq (qdot pr w)) = (pV l q pr hs).map dq := by
    rw [pV_map, bestL_same hok hq hb]
  rw [restE_wipe, h', em]
  walk_at "z"
  refine ⟨okC _, okC _, ?_⟩
  show way (!eqb (dC (pV l q pr hs)) (dC (pV l q pr hs))) _ _
  rw [eqb_dC]
  walk_at "z"
  show rd_law_17 [x0, x1, .ow 1 (dT t), x3, .fz (dLand l), .fz (dq q), .fz (dw pr), .fz (.str T), .ow 1 (dC (pV l q pr hs)), .fz (.tup ((bestL l q pr (pV l q pr hs)).map .int)), .no, .no, .no, .no, .no] _
  rw [← rx_law_17]
  walk_at "zz"
  refine ⟨by decide, ?_⟩
  walk_at "zz"
  refine forL_inv (I := fun items ρ => ∃ t : Tp, ρ = [x0, x1, .ow 1 (dT t), x3, .fz (dLand l), .fz (dq q), .fz (dw pr), .fz (.str T), .ow 1 (dC (pV l q pr hs)), .fz (.tup ((bestL l q pr (pV l q pr hs)).map .int)), .no, .no, .no, .no, .no] ∧ t.ok (c + 8 * items.length)) (fun ρ hI => ?_) (fun e es ρ P hP hI => ?_) _ _ ⟨t, rfl, ht⟩
  · obtain ⟨t1, rfl, _⟩ := hI
    exact k60_21 x0 x1 _ x3 _ _ l q pr hs hok hq hp hb E (hE t1 _ _)
  · obtain ⟨t1, rfl, ht1⟩ := hI
    rw [List.length_cons] at ht1
    refine ⟨rfl, ?_⟩
    unfold rBW
    refine k60_18 x0 x1 x3 _ _ _ t1 (c + 8 * es.length) (ht1.le (by omega)) l q pr hs hok hq hp hb _ fun t2 x11 ht2 => ?_
    exact ⟨rfl, hP _ ⟨t2, rfl, ht2⟩⟩
theorem k60_2 (ns : List Int) (hbits : ∀ n ∈ ns, bl n.natAbs ≤ 2000000) : ∀ (E : EN) (k : Int), 0 ≤ k → k ≤ 1000 → E.nx [.fz (.scr ns), .no, .no, .no, .no, .no, .no, .no, .no, .no, .no, .no, .no, .no, .no] →
    rBW [1, 2, 3, 4, 5, 6, 7, 8, 9, 10, 11, 12] rd_law_2 [.fz (.scr ns), .fz (.int k), .no, .no, .no, .no, .no, .no, .no, .no, .no, .no, .no, .no, .no] E := by
  intro E k k0 k1 hE
  unfold rBW
  rw [← rx_law_2]
  walk_at "z"
  refine sp_l_begun.mk k0 k1 hbits fun t ht => ?_
  walk_at "z"
  refine lit15 rfl ?_
  rw [← rx_law_3]
  walk_at "z"
  refine sp_l_draw.mk' 10000 (ht.of (by decide)) (by decide) (by decide) fun a t1 a0 a1 ht1 => ?_
  walk_at "z"
  have e1 : (D.int (1 + a)) = D.int (((1 + a).toNat : Nat) : Int) := by rw [Int.toNat_of_nonneg (by omega)]
  rw [e1]
  have ka : 1 ≤ (1 + a).toNat ∧ (1 + a).toNat ≤ 4 := by omega
  generalize (1 + a).toNat = kk at *
  refine lit15 rfl ?_
  rw [← rx_law_4]
  walk_at "z"
  refine sp_l_land.mk (m := 4) 8000 ka.1 ka.2 (by decide) (by decide) (ht1.le (by decide)) fun l t2 hl hlk ht2 => ?_
  walk_at "z"
  refine sp_l_many_deeds.mk 7000 hl (ht2.le (by decide)) fun l2 t3 hl2 hlk2 ht3 => ?_
  walk_at "z"
  refine sp_l_doubled.mk 6000 hl2 (ht3.le (by decide)) fun l3 t4 hl3 hlk3 ht4 => ?_
  walk_at "z"
  refine lit15 rfl ?_
  rw [← rx_law_5]
  walk_at "z"
  refine sp_l_share.mk 5000 (ht4.le (by decide)) fun q t5 hq ht5 => ?_
  walk_at "z"
  refine lit15 rfl ?_
  rw [← rx_law_6]
  walk_at "z"
  refine sp_l_worth.mk 4000 (by omega) (ht5.le (by omega)) fun pr t6 hp1 hp2 ht6 => ?_
  walk_at "z"
  refine landW_show hl3 ?_
  walk_at "z"
  refine lit15 rfl ?_
  refine k60_7 _ _ _ _ t6 3000 (ht6.le (by decide)) l3 q pr hl3 hq ⟨by rw [hp1]; omega, hp2⟩ _ (fun t7 x9 x12 => ⟨rfl, hE⟩) rfl
theorem rp_law (ds : List D) (R : RR) (hl : ds.length = 1) (h : sp_law ds R) : rd_law (rho0 [false] 0 ds ++ List.replicate (15 - 1) .no) (endsOf [false] R) := by
  unfold sp_law at h
  obtain ⟨ns, rfl, hlen, hbits, hR⟩ := h
  show rd_law [.fz (.scr ns), .no, .no, .no, .no, .no, .no, .no, .no, .no, .no, .no, .no, .no, .no] _
  walk_at "zz"
  refine ⟨by omega, ?_⟩
  walk_at "zz"
  refine forL_inv (I := fun items ρ => ρ = [.fz (.scr ns), .no, .no, .no, .no, .no, .no, .no, .no, .no, .no, .no, .no, .no, .no] ∧ ∀ e ∈ items, ∃ k : Nat, e = .int k ∧ k < 1000) (fun ρ hI => ?_) (fun e es ρ P hP hI => ?_) _ _ ⟨rfl, fun e he => ?_⟩
  · obtain ⟨rfl, _⟩ := hI
    rw [← rx_law_25]
    exact ⟨_, rfl, hR⟩
  · obtain ⟨rfl, hes⟩ := hI
    obtain ⟨k, rfl, hk⟩ := hes e (by simp)
    refine ⟨rfl, ?_⟩
    exact k60_2 ns hbits _ k (by omega) (by omega) (hP _ ⟨rfl, fun e' h' => hes e' (List.mem_cons_of_mem _ h')⟩)
  · obtain ⟨k, rfl, hk⟩ := mem_range he
    exact ⟨k, rfl, by omega⟩

end VL

set_option pp.maxSteps 200
namespace VL
open PySem PySem.Spec PyProof.Rows L2
def topS (i : Nat) : Stmt := PySem.Challenge.pw_rimplans_k60_heights_without_last_step.main.body.getD i (.Pass ⟨0, 0, 0, 0⟩)
abbrev s_divisor_of : Stmt := topS 5
theorem sc_divisor_of : FnScope ["one", "other"] ["one", "other"] (defScope s_divisor_of) := ⟨rfl, rfl, rfl, by decide +kernel, rfl, by decide +kernel, by decide +kernel⟩
theorem bd_divisor_of : BindArgs "divisor_of" s_divisor_of ["one", "other"] := fun _ _ _ _ _ _ us hl => match us, hl with | [_, _], _ => rfl
abbrev s_part_at : Stmt := topS 6
theorem sc_part_at : FnScope ["top", "bottom", "divisor"] ["top", "bottom"] (defScope s_part_at) := ⟨rfl, rfl, rfl, by decide +kernel, rfl, by decide +kernel, by decide +kernel⟩
theorem bd_part_at : BindArgs "part_at" s_part_at ["top", "bottom"] := fun _ _ _ _ _ _ us hl => match us, hl with | [_, _], _ => rfl
abbrev s_plus : Stmt := topS 7
theorem sc_plus : FnScope ["a", "b"] ["a", "b"] (defScope s_plus) := ⟨rfl, rfl, rfl, by decide +kernel, rfl, by decide +kernel, by decide +kernel⟩
theorem bd_plus : BindArgs "plus" s_plus ["a", "b"] := fun _ _ _ _ _ _ us hl => match us, hl with | [_, _], _ => rfl
abbrev s_minus : Stmt := topS 8
theorem sc_minus : FnScope ["a", "b"] ["a", "b"] (defScope s_minus) := ⟨rfl, rfl, rfl, by decide +kernel, rfl, by decide +kernel, by decide +kernel⟩
theorem bd_minus : BindArgs "minus" s_minus ["a", "b"] := fun _ _ _ _ _ _ us hl => match us, hl with | [_, _], _ => rfl
abbrev s_times : Stmt := topS 9
theorem sc_times : FnScope ["a", "b"] ["a", "b"] (defScope s_times) := ⟨rfl, rfl, rfl, by decide +kernel, rfl, by decide +kernel, by decide +kernel⟩
theorem bd_times : BindArgs "times" s_times ["a", "b"] := fun _ _ _ _ _ _ us hl => match us, hl with | [_, _], _ => rfl
abbrev s_over : Stmt := topS 10
theorem sc_over : FnScope ["a", "b"] ["a", "b"] (defScope s_over) := ⟨rfl, rfl, rfl, by decide +kernel, rfl, by decide +kernel, by decide +kernel⟩
theorem bd_over : BindArgs "over" s_over ["a", "b"] := fun _ _ _ _ _ _ us hl => match us, hl with | [_, _], _ => rfl
abbrev s_is_less : Stmt := topS 11
theorem sc_is_less : FnScope ["a", "b"] ["a", "b"] (defScope s_is_less) := ⟨rfl, rfl, rfl, by decide +kernel, rfl, by decide +kernel, by decide +kernel⟩
theorem bd_is_less : BindArgs "is_less" s_is_less ["a", "b"] := fun _ _ _ _ _ _ us hl => match us, hl with | [_, _], _ => rfl
abbrev s_sum_of : Stmt := topS 12
theorem sc_sum_of : FnScope ["parts", "found", "part"] ["parts"] (defScope s_sum_of) := ⟨rfl, rfl, rfl, by decide +kernel, rfl, by decide +kernel, by decide +kernel⟩
theorem bd_sum_of : BindArgs "sum_of" s_sum_of ["parts"] := fun _ _ _ _ _ _ us hl => match us, hl with | [_], _ => rfl
abbrev s_priced : Stmt := topS 14
theorem sc_priced : FnScope ["prices", "worth", "price", "part"] ["prices", "worth"] (defScope s_priced) := ⟨rfl, rfl, rfl, by decide +kernel, rfl, by decide +kernel, by decide +kernel⟩
theorem bd_priced : BindArgs "priced" s_priced ["prices", "worth"] := fun _ _ _ _ _ _ us hl => match us, hl with | [_, _], _ => rfl
abbrev s_swept : Stmt := topS 17
theorem sc_swept : FnScope ["rows", "place", "first", "made", "pivot", "found", "k", "row", "part", "other"] ["rows", "place"] (defScope s_swept) := ⟨rfl, rfl, rfl, by decide +kernel, rfl, by decide +kernel, by decide +kernel⟩
theorem bd_swept : BindArgs "swept" s_swept ["rows", "place"] := fun _ _ _ _ _ _ us hl => match us, hl with | [_, _], _ => rfl
abbrev s_solved : Stmt := topS 18
theorem sc_solved : FnScope ["rows", "place", "row"] ["rows"] (defScope s_solved) := ⟨rfl, rfl, rfl, by decide +kernel, rfl, by decide +kernel, by decide +kernel⟩
theorem bd_solved : BindArgs "solved" s_solved ["rows"] := fun _ _ _ _ _ _ us hl => match us, hl with | [_], _ => rfl
abbrev s_leads_of : Stmt := topS 22
theorem sc_leads_of : FnScope ["land", "share", "habit", "found", "state", "deed", "row", "follower", "chance"] ["land", "share", "habit"] (defScope s_leads_of) := ⟨rfl, rfl, rfl, by decide +kernel, rfl, by decide +kernel, by decide +kernel⟩
theorem bd_leads_of : BindArgs "leads_of" s_leads_of ["land", "share", "habit"] := fun _ _ _ _ _ _ us hl => match us, hl with | [_, _, _], _ => rfl
abbrev s_habit_sums : Stmt := topS 23
theorem sc_habit_sums : FnScope ["land", "share", "habit", "rows", "place", "lead", "state", "deed", "row", "k", "part"] ["land", "share", "habit"] (defScope s_habit_sums) := ⟨rfl, rfl, rfl, by decide +kernel, rfl, by decide +kernel, by decide +kernel⟩
theorem bd_habit_sums : BindArgs "habit_sums" s_habit_sums ["land", "share", "habit"] := fun _ _ _ _ _ _ us hl => match us, hl with | [_, _, _], _ => rfl
abbrev s_deed_height : Stmt := topS 24
theorem sc_deed_height : FnScope ["share", "prices", "deed", "heights", "total", "follower", "chance"] ["share", "prices", "deed", "heights"] (defScope s_deed_height) := ⟨rfl, rfl, rfl, by decide +kernel, rfl, by decide +kernel, by decide +kernel⟩
theorem bd_deed_height : BindArgs "deed_height" s_deed_height ["share", "prices", "deed", "heights"] := fun _ _ _ _ _ _ us hl => match us, hl with | [_, _, _, _], _ => rfl
abbrev s_first_habit : Stmt := topS 25
theorem sc_first_habit : FnScope ["land", "state"] ["land"] (defScope s_first_habit) := ⟨rfl, rfl, rfl, by decide +kernel, rfl, by decide +kernel, by decide +kernel⟩
theorem bd_first_habit : BindArgs "first_habit" s_first_habit ["land"] := fun _ _ _ _ _ _ us hl => match us, hl with | [_], _ => rfl
abbrev s_bettered : Stmt := topS 26
theorem sc_bettered : FnScope ["land", "share", "prices", "habit", "heights", "found", "state", "deed", "best", "other"] ["land", "share", "prices", "habit", "heights"] (defScope s_bettered) := ⟨rfl, rfl, rfl, by decide +kernel, rfl, by decide +kernel, by decide +kernel⟩
theorem bd_bettered : BindArgs "bettered" s_bettered ["land", "share", "prices", "habit", "heights"] := fun _ _ _ _ _ _ us hl => match us, hl with | [_, _, _, _, _], _ => rfl
abbrev s_endless_heights : Stmt := topS 27
theorem sc_endless_heights : FnScope ["land", "share", "prices", "habit", "going", "heights", "other", "worth"] ["land", "share", "prices"] (defScope s_endless_heights) := ⟨rfl, rfl, rfl, by decide +kernel, rfl, by decide +kernel, by decide +kernel⟩
theorem bd_endless_heights : BindArgs "endless_heights" s_endless_heights ["land", "share", "prices"] := fun _ _ _ _ _ _ us hl => match us, hl with | [_, _, _], _ => rfl
abbrev s_tight_deeds : Stmt := topS 28
theorem sc_tight_deeds : FnScope ["land", "share", "prices", "heights", "found", "place", "state", "row", "deed", "k", "height"] ["land", "share", "prices", "heights"] (defScope s_tight_deeds) := ⟨rfl, rfl, rfl, by decide +kernel, rfl, by decide +kernel, by decide +kernel⟩
theorem bd_tight_deeds : BindArgs "tight_deeds" s_tight_deeds ["land", "share", "prices", "heights"] := fun _ _ _ _ _ _ us hl => match us, hl with | [_, _, _, _], _ => rfl
abbrev s_best_habit : Stmt := topS 29
theorem sc_best_habit : FnScope ["land", "share", "prices", "tight", "deeds"] ["land", "share", "prices"] (defScope s_best_habit) := ⟨rfl, rfl, rfl, by decide +kernel, rfl, by decide +kernel, by decide +kernel⟩
theorem bd_best_habit : BindArgs "best_habit" s_best_habit ["land", "share", "prices"] := fun _ _ _ _ _ _ us hl => match us, hl with | [_, _, _], _ => rfl
abbrev s_l_begun : Stmt := topS 31
theorem sc_l_begun : FnScope ["_law_script", "_law_k", "_law_cell"] ["_law_script", "_law_k"] (defScope s_l_begun) := ⟨rfl, rfl, rfl, by decide +kernel, rfl, by decide +kernel, by decide +kernel⟩
theorem bd_l_begun : BindArgs "_law_begun" s_l_begun ["_law_script", "_law_k"] := fun _ _ _ _ _ _ us hl => match us, hl with | [_, _], _ => rfl
abbrev s_l_draw : Stmt := topS 32
theorem sc_l_draw : FnScope ["_law_tape", "_law_many", "_law_found", "_law_once", "_law_twice"] ["_law_tape", "_law_many"] (defScope s_l_draw) := ⟨rfl, rfl, rfl, by decide +kernel, rfl, by decide +kernel, by decide +kernel⟩
theorem bd_l_draw : BindArgs "_law_draw" s_l_draw ["_law_tape", "_law_many"] := fun _ _ _ _ _ _ us hl => match us, hl with | [_, _], _ => rfl
abbrev s_l_part : Stmt := topS 33
theorem sc_l_part : FnScope ["_law_top", "_law_bottom", "_law_one", "_law_other", "_law_sign"] ["_law_top", "_law_bottom"] (defScope s_l_part) := ⟨rfl, rfl, rfl, by decide +kernel, rfl, by decide +kernel, by decide +kernel⟩
theorem bd_l_part : BindArgs "_law_part" s_l_part ["_law_top", "_law_bottom"] := fun _ _ _ _ _ _ us hl => match us, hl with | [_, _], _ => rfl
abbrev s_l_plus : Stmt := topS 34
theorem sc_l_plus : FnScope ["_law_a", "_law_b"] ["_law_a", "_law_b"] (defScope s_l_plus) := ⟨rfl, rfl, rfl, by decide +kernel, rfl, by decide +kernel, by decide +kernel⟩
theorem bd_l_plus : BindArgs "_law_plus" s_l_plus ["_law_a", "_law_b"] := fun _ _ _ _ _ _ us hl => match us, hl with | [_, _], _ => rfl
abbrev s_l_times : Stmt := topS 35
theorem sc_l_times : FnScope ["_law_a", "_law_b"] ["_law_a", "_law_b"] (defScope s_l_times) := ⟨rfl, rfl, rfl, by decide +kernel, rfl, by decide +kernel, by decide +kernel⟩
theorem bd_l_times : BindArgs "_law_times" s_l_times ["_law_a", "_law_b"] := fun _ _ _ _ _ _ us hl => match us, hl with | [_, _], _ => rfl
abbrev s_l_less : Stmt := topS 36
theorem sc_l_less : FnScope ["_law_a", "_law_b"] ["_law_a", "_law_b"] (defScope s_l_less) := ⟨rfl, rfl, rfl, by decide +kernel, rfl, by decide +kernel, by decide +kernel⟩
theorem bd_l_less : BindArgs "_law_less" s_l_less ["_law_a", "_law_b"] := fun _ _ _ _ _ _ us hl => match us, hl with | [_, _], _ => rfl
abbrev s_l_priced : Stmt := topS 37
theorem sc_l_priced : FnScope ["_law_prices", "_law_worth_here", "_law_found", "_law_a", "_law_b"] ["_law_prices", "_law_worth_here"] (defScope s_l_priced) := ⟨rfl, rfl, rfl, by decide +kernel, rfl, by decide +kernel, by decide +kernel⟩
theorem bd_l_priced : BindArgs "_law_priced" s_l_priced ["_law_prices", "_law_worth_here"] := fun _ _ _ _ _ _ us hl => match us, hl with | [_, _], _ => rfl
abbrev s_l_number : Stmt := topS 38
theorem sc_l_number : FnScope ["_law_tape", "_law_way", "_law_small", "_law_bottom"] ["_law_tape"] (defScope s_l_number) := ⟨rfl, rfl, rfl, by decide +kernel, rfl, by decide +kernel, by decide +kernel⟩
theorem bd_l_number : BindArgs "_law_number" s_l_number ["_law_tape"] := fun _ _ _ _ _ _ us hl => match us, hl with | [_], _ => rfl
abbrev s_l_worth : Stmt := topS 39
theorem sc_l_worth : FnScope ["_law_tape", "_law_kinds", "_law_kind"] ["_law_tape", "_law_kinds"] (defScope s_l_worth) := ⟨rfl, rfl, rfl, by decide +kernel, rfl, by decide +kernel, by decide +kernel⟩
theorem bd_l_worth : BindArgs "_law_worth" s_l_worth ["_law_tape", "_law_kinds"] := fun _ _ _ _ _ _ us hl => match us, hl with | [_, _], _ => rfl
abbrev s_l_followers : Stmt := topS 40
theorem sc_l_followers : FnScope ["_law_tape", "_law_states", "_law_most", "_law_left", "_law_weights", "_law_turn", "_law_state_here", "_law_whole", "_law_weight"] ["_law_tape", "_law_states", "_law_most"] (defScope s_l_followers) := ⟨rfl, rfl, rfl, by decide +kernel, rfl, by decide +kernel, by decide +kernel⟩
theorem bd_l_followers : BindArgs "_law_followers" s_l_followers ["_law_tape", "_law_states", "_law_most"] := fun _ _ _ _ _ _ us hl => match us, hl with | [_, _, _], _ => rfl
abbrev s_l_state : Stmt := topS 41
theorem sc_l_state : FnScope ["_law_tape", "_law_kinds", "_law_states", "_law_most", "_law_deeds", "_law_turn"] ["_law_tape", "_law_kinds", "_law_states", "_law_most"] (defScope s_l_state) := ⟨rfl, rfl, rfl, by decide +kernel, rfl, by decide +kernel, by decide +kernel⟩
theorem bd_l_state : BindArgs "_law_state" s_l_state ["_law_tape", "_law_kinds", "_law_states", "_law_most"] := fun _ _ _ _ _ _ us hl => match us, hl with | [_, _, _, _], _ => rfl
abbrev s_l_land : Stmt := topS 42
theorem sc_l_land : FnScope ["_law_tape", "_law_kinds", "_law_most", "_law_great", "_law_states", "_law_found", "_law_state_here"] ["_law_tape", "_law_kinds", "_law_most"] (defScope s_l_land) := ⟨rfl, rfl, rfl, by decide +kernel, rfl, by decide +kernel, by decide +kernel⟩
theorem bd_l_land : BindArgs "_law_land" s_l_land ["_law_tape", "_law_kinds", "_law_most"] := fun _ _ _ _ _ _ us hl => match us, hl with | [_, _, _], _ => rfl
abbrev s_l_share : Stmt := topS 43
theorem sc_l_share : FnScope ["_law_tape", "_law_any_one", "_law_some"] ["_law_tape"] (defScope s_l_share) := ⟨rfl, rfl, rfl, by decide +kernel, rfl, by decide +kernel, by decide +kernel⟩
theorem bd_l_share : BindArgs "_law_share" s_l_share ["_law_tape"] := fun _ _ _ _ _ _ us hl => match us, hl with | [_], _ => rfl
abbrev s_l_habit : Stmt := topS 44
theorem sc_l_habit : FnScope ["_law_tape", "_law_land_here", "_law_state_here"] ["_law_tape", "_law_land_here"] (defScope s_l_habit) := ⟨rfl, rfl, rfl, by decide +kernel, rfl, by decide +kernel, by decide +kernel⟩
theorem bd_l_habit : BindArgs "_law_habit" s_l_habit ["_law_tape", "_law_land_here"] := fun _ _ _ _ _ _ us hl => match us, hl with | [_, _], _ => rfl
abbrev s_l_close : Stmt := topS 45
theorem sc_l_close : FnScope ["_law_tape", "_law_worth_here", "_law_by", "_law_part_here"] ["_law_tape", "_law_worth_here"] (defScope s_l_close) := ⟨rfl, rfl, rfl, by decide +kernel, rfl, by decide +kernel, by decide +kernel⟩
theorem bd_l_close : BindArgs "_law_close" s_l_close ["_law_tape", "_law_worth_here"] := fun _ _ _ _ _ _ us hl => match us, hl with | [_, _], _ => rfl
abbrev s_l_many_deeds : Stmt := topS 46
theorem sc_l_many_deeds : FnScope ["_law_tape", "_law_land_here", "_law_chooser", "_law_end", "_law_deeds", "_law_more", "_law_turn"] ["_law_tape", "_law_land_here"] (defScope s_l_many_deeds) := ⟨rfl, rfl, rfl, by decide +kernel, rfl, by decide +kernel, by decide +kernel⟩
theorem bd_l_many_deeds : BindArgs "_law_many_deeds" s_l_many_deeds ["_law_tape", "_law_land_here"] := fun _ _ _ _ _ _ us hl => match us, hl with | [_, _], _ => rfl
abbrev s_l_doubled : Stmt := topS 47
theorem sc_l_doubled : FnScope ["_law_tape", "_law_land_here", "_law_place", "_law_chooser", "_law_end", "_law_deeds", "_law_more"] ["_law_tape", "_law_land_here"] (defScope s_l_doubled) := ⟨rfl, rfl, rfl, by decide +kernel, rfl, by decide +kernel, by decide +kernel⟩
theorem bd_l_doubled : BindArgs "_law_doubled" s_l_doubled ["_law_tape", "_law_land_here"] := fun _ _ _ _ _ _ us hl => match us, hl with | [_, _], _ => rfl
abbrev s_l_deed_height : Stmt := topS 48
theorem sc_l_deed_height : FnScope ["_law_deed", "_law_share_here", "_law_prices", "_law_row", "_law_found", "_law_follower", "_law_chance"] ["_law_deed", "_law_share_here", "_law_prices", "_law_row"] (defScope s_l_deed_height) := ⟨rfl, rfl, rfl, by decide +kernel, rfl, by decide +kernel, by decide +kernel⟩
theorem bd_l_deed_height : BindArgs "_law_deed_height" s_l_deed_height ["_law_deed", "_law_share_here", "_law_prices", "_law_row"] := fun _ _ _ _ _ _ us hl => match us, hl with | [_, _, _, _], _ => rfl
abbrev s_l_heights_right : Stmt := topS 49
theorem sc_l_heights_right : FnScope ["_law_land_here", "_law_share_here", "_law_prices", "_law_told", "_law_habit_here", "_law_place", "_law_chooser", "_law_end", "_law_deeds", "_law_some", "_law_deed", "_law_one"] ["_law_land_here", "_law_share_here", "_law_prices", "_law_told", "_law_habit_here"] (defScope s_l_heights_right) := ⟨rfl, rfl, rfl, by decide +kernel, rfl, by decide +kernel, by decide +kernel⟩
theorem bd_l_heights_right : BindArgs "_law_heights_right" s_l_heights_right ["_law_land_here", "_law_share_here", "_law_prices", "_law_told", "_law_habit_here"] := fun _ _ _ _ _ _ us hl => match us, hl with | [_, _, _, _, _], _ => rfl
abbrev s_law : Stmt := topS 50
theorem sc_law : FnScope ["_law_script", "_law_k", "_law_tape", "_law_kinds", "_law_land_here", "_law_share_here", "_law_prices", "_law_kept", "_law_told", "_law_habit_here", "_law_turn", "_law_row", "_law_due", "_law_worth_here", "_law_one"] ["_law_script"] (defScope s_law) := ⟨rfl, rfl, rfl, by decide +kernel, rfl, by decide +kernel, by decide +kernel⟩
theorem bd_law : BindArgs "law" s_law ["_law_script"] := fun _ _ _ _ _ _ us hl => match us, hl with | [_], _ => rfl
theorem ok_divisor_of {P : Program} {w : World} {K : Fg} {mg : Str → Option Value} {base : Heap} (hB : HasSys P base) {f : Addr} {fd : FuncData} (W : Fun K "divisor_of" "divisor_of" s_divisor_of f fd)  : GOk P w K mg base 40 f fd ["one", "other"] (liftSp K [false, false] sp_divisor_of) := by
  have Sc := sc_divisor_of
  refine fn_g (r := rd_divisor_of) W Sc rfl (fun cdv A outer s H E hr hP => ?_) rp_divisor_of
  exact (vss_cons (vs_while PassesOwn.never (vt_cmp op_gt lk_gt (vo_v (pv 1)) (vo_e ve_int) (nomark _)) (vss_one (vs_par (i := 0) (j := 1) rfl Sc.nd rfl rfl (by decide) rfl rfl (ve_var (pv 1)) (ve_md (vo_v (pv 0)) (vo_v (pv 1))) (by rfl))))
    (vss_one (vs_ret (ve_move (pv 0)))))
theorem ok_part_at {P : Program} {w : World} {K : Fg} {mg : Str → Option Value} {base : Heap} (hB : HasSys P base) {f : Addr} {fd : FuncData} (W : Fun K "part_at" "part_at" s_part_at f fd) (m_abs : mg "abs" = none) (W_divisor_of : Fx K mg "divisor_of" s_divisor_of ["one", "other"]) (G_divisor_of : GOk P w K mg base 40 W_divisor_of.f W_divisor_of.fd ["one", "other"] (liftSp K [false, false] sp_divisor_of)) : GOk P w K mg base 41 f fd ["top", "bottom"] (liftSp K [false, false] sp_part_at) := by
  have Sc := sc_part_at
  refine fn_g (r := rd_part_at) W Sc rfl (fun cdv A outer s H E hr hP => ?_) rp_part_at
  exact (vss_cons (vs_set (i := 2) Sc.nd rfl (.inl rfl) (ve_gcall G_divisor_of (hr.mono (by decide)) rfl W_divisor_of.m W_divisor_of.F.kp W_divisor_of.b (vgv (ve_cb (g := gAbs) call_abs lk_abs rfl m_abs bt_abs (va_cons (vo_v (pv 0)) va_nil)) (vgv (ve_cb (g := gAbs) call_abs lk_abs rfl m_abs bt_abs (va_cons (vo_v (pv 1)) va_nil)) vg0))))
    (vss_cons (vs_if (vt_cmp op_lt lk_lt (vo_v (pv 1)) (vo_e ve_int) (nomark _)) (vss_one (vs_set (i := 2) Sc.nd rfl (.inl rfl) (ve_sub (vo_e ve_int) (vo_v (pv 2))))) vss_nil)
    (vss_one (vs_ret (ve_tup (vf_cons (ve_fd hr (by decide) hP hB (vo_v (pv 0)) (vo_v (pv 2))) (vf_cons (ve_fd hr (by decide) hP hB (vo_v (pv 1)) (vo_v (pv 2))) vf_nil)))))))
theorem ok_plus {P : Program} {w : World} {K : Fg} {mg : Str → Option Value} {base : Heap} (hB : HasSys P base) {f : Addr} {fd : FuncData} (W : Fun K "plus" "plus" s_plus f fd) (W_part_at : Fx K mg "part_at" s_part_at ["top", "bottom"]) (G_part_at : GOk P w K mg base 41 W_part_at.f W_part_at.fd ["top", "bottom"] (liftSp K [false, false] sp_part_at)) : GOk P w K mg base 42 f fd ["a", "b"] (liftSp K [false, false] sp_plus) := by
  have Sc := sc_plus
  refine fn_g (r := rd_plus) W Sc rfl (fun cdv A outer s H E hr hP => ?_) rp_plus
  exact (vss_one (vs_ret (ve_gcall G_part_at (hr.mono (by decide)) rfl W_part_at.m W_part_at.F.kp W_part_at.b (vgv (ve_add (vo_e (ve_mul (vo_e (ve_at (vo_v (pv 0)) (vo_e ve_int))) (vo_e (ve_at (vo_v (pv 1)) (vo_e ve_int))))) (vo_e (ve_mul (vo_e (ve_at (vo_v (pv 1)) (vo_e ve_int))) (vo_e (ve_at (vo_v (pv 0)) (vo_e ve_int)))))) (vgv (ve_mul (vo_e (ve_at (vo_v (pv 0)) (vo_e ve_int))) (vo_e (ve_at (vo_v (pv 1)) (vo_e ve_int)))) vg0)))))
theorem ok_minus {P : Program} {w : World} {K : Fg} {mg : Str → Option Value} {base : Heap} (hB : HasSys P base) {f : Addr} {fd : FuncData} (W : Fun K "minus" "minus" s_minus f fd) (W_part_at : Fx K mg "part_at" s_part_at ["top", "bottom"]) (G_part_at : GOk P w K mg base 41 W_part_at.f W_part_at.fd ["top", "bottom"] (liftSp K [false, false] sp_part_at)) : GOk P w K mg base 42 f fd ["a", "b"] (liftSp K [false, false] sp_minus) := by
  have Sc := sc_minus
  refine fn_g (r := rd_minus) W Sc rfl (fun cdv A outer s H E hr hP => ?_) rp_minus
  exact (vss_one (vs_ret (ve_gcall G_part_at (hr.mono (by decide)) rfl W_part_at.m W_part_at.F.kp W_part_at.b (vgv (ve_sub (vo_e (ve_mul (vo_e (ve_at (vo_v (pv 0)) (vo_e ve_int))) (vo_e (ve_at (vo_v (pv 1)) (vo_e ve_int))))) (vo_e (ve_mul (vo_e (ve_at (vo_v (pv 1)) (vo_e ve_int))) (vo_e (ve_at (vo_v (pv 0)) (vo_e ve_int)))))) (vgv (ve_mul (vo_e (ve_at (vo_v (pv 0)) (vo_e ve_int))) (vo_e (ve_at (vo_v (pv 1)) (vo_e ve_int)))) vg0)))))
theorem ok_times {P : Program} {w : World} {K : Fg} {mg : Str → Option Value} {base : Heap} (hB : HasSys P base) {f : Addr} {fd : FuncData} (W : Fun K "times" "times" s_times f fd) (W_part_at : Fx K mg "part_at" s_part_at ["top", "bottom"]) (G_part_at : GOk P w K mg base 41 W_part_at.f W_part_at.fd ["top", "bottom"] (liftSp K [false, false] sp_part_at)) : GOk P w K mg base 42 f fd ["a", "b"] (liftSp K [false, false] sp_times) := by
  have Sc := sc_times
  refine fn_g (r := rd_times) W Sc rfl (fun cdv A outer s H E hr hP => ?_) rp_times
  exact (vss_one (vs_ret (ve_gcall G_part_at (hr.mono (by decide)) rfl W_part_at.m W_part_at.F.kp W_part_at.b (vgv (ve_mul (vo_e (ve_at (vo_v (pv 0)) (vo_e ve_int))) (vo_e (ve_at (vo_v (pv 1)) (vo_e ve_int)))) (vgv (ve_mul (vo_e (ve_at (vo_v (pv 0)) (vo_e ve_int))) (vo_e (ve_at (vo_v (pv 1)) (vo_e ve_int)))) vg0)))))
theorem ok_over {P : Program} {w : World} {K : Fg} {mg : Str → Option Value} {base : Heap} (hB : HasSys P base) {f : Addr} {fd : FuncData} (W : Fun K "over" "over" s_over f fd) (W_part_at : Fx K mg "part_at" s_part_at ["top", "bottom"]) (G_part_at : GOk P w K mg base 41 W_part_at.f W_part_at.fd ["top", "bottom"] (liftSp K [false, false] sp_part_at)) : GOk P w K mg base 42 f fd ["a", "b"] (liftSp K [false, false] sp_over) := by
  have Sc := sc_over
  refine fn_g (r := rd_over) W Sc rfl (fun cdv A outer s H E hr hP => ?_) rp_over
  exact (vss_cons (vs_if (vt_cmp (op_eqD (hu64 hr.rm)) lk_eq (vo_e (ve_at (vo_v (pv 1)) (vo_e ve_int))) (vo_e ve_int) (nomark _)) (vss_one vs_never) vss_nil)
    (vss_one (vs_ret (ve_gcall G_part_at (hr.mono (by decide)) rfl W_part_at.m W_part_at.F.kp W_part_at.b (vgv (ve_mul (vo_e (ve_at (vo_v (pv 0)) (vo_e ve_int))) (vo_e (ve_at (vo_v (pv 1)) (vo_e ve_int)))) (vgv (ve_mul (vo_e (ve_at (vo_v (pv 0)) (vo_e ve_int))) (vo_e (ve_at (vo_v (pv 1)) (vo_e ve_int)))) vg0))))))
theorem ok_is_less {P : Program} {w : World} {K : Fg} {mg : Str → Option Value} {base : Heap} (hB : HasSys P base) {f : Addr} {fd : FuncData} (W : Fun K "is_less" "is_less" s_is_less f fd)  : GOk P w K mg base 40 f fd ["a", "b"] (liftSp K [false, false] sp_is_less) := by
  have Sc := sc_is_less
  refine fn_g (r := rd_is_less) W Sc rfl (fun cdv A outer s H E hr hP => ?_) rp_is_less
  exact (vss_one (vs_ret (ve_cmp op_lt lk_lt (vo_e (ve_mul (vo_e (ve_at (vo_v (pv 0)) (vo_e ve_int))) (vo_e (ve_at (vo_v (pv 1)) (vo_e ve_int))))) (vo_e (ve_mul (vo_e (ve_at (vo_v (pv 1)) (vo_e ve_int))) (vo_e (ve_at (vo_v (pv 0)) (vo_e ve_int))))) (nomark _))))
theorem ok_sum_of {P : Program} {w : World} {K : Fg} {mg : Str → Option Value} {base : Heap} (hB : HasSys P base) {f : Addr} {fd : FuncData} (W : Fun K "sum_of" "sum_of" s_sum_of f fd) {u_ZERO : Value} (c_ZERO : mg "ZERO" = some u_ZERO ∧ KRep K k_ZERO u_ZERO) (W_plus : Fx K mg "plus" s_plus ["a", "b"]) (G_plus : GOk P w K mg base 42 W_plus.f W_plus.fd ["a", "b"] (liftSp K [false, false] sp_plus)) : GOk P w K mg base 43 f fd ["parts"] (liftSp K [false] sp_sum_of) := by
  have Sc := sc_sum_of
  refine fn_g (r := rd_sum_of) W Sc rfl (fun cdv A outer s H E hr hP => ?_) rp_sum_of
  exact (vss_cons (vs_set (i := 1) Sc.nd rfl (.inl rfl) (ve_k rfl c_ZERO))
    (vss_cons (vs_for PassesOwn.never rfl (vi_seq (ve_var (pv 0))) (vg_name Sc.nd rfl (.inl rfl)) (vss_one (vs_set (i := 1) Sc.nd rfl (.inl rfl) (ve_gcall G_plus (hr.mono (by decide)) rfl W_plus.m W_plus.F.kp W_plus.b (vgv (ve_var (pv 1)) (vgv (ve_var (pv 2)) vg0))))))
    (vss_one (vs_ret (ve_move (pv 1))))))
theorem ok_priced {P : Program} {w : World} {K : Fg} {mg : Str → Option Value} {base : Heap} (hB : HasSys P base) {f : Addr} {fd : FuncData} (W : Fun K "priced" "priced" s_priced f fd) (m_zip : mg "zip" = none) (W_sum_of : Fx K mg "sum_of" s_sum_of ["parts"]) (G_sum_of : GOk P w K mg base 43 W_sum_of.f W_sum_of.fd ["parts"] (liftSp K [false] sp_sum_of)) (W_times : Fx K mg "times" s_times ["a", "b"]) (G_times : GOk P w K mg base 42 W_times.f W_times.fd ["a", "b"] (liftSp K [false, false] sp_times)) : GOk P w K mg base 44 f fd ["prices", "worth"] (liftSp K [false, false] sp_priced) := by
  have Sc := sc_priced
  refine fn_g (r := rd_priced) W Sc rfl (fun cdv A outer s H E hr hP => ?_) rp_priced
  exact (vss_one (vs_ret (ve_gcall G_sum_of (hr.mono (by decide)) rfl W_sum_of.m W_sum_of.F.kp W_sum_of.b (vgv (ve_lc (own := [("price", 2), ("part", 3)]) (is := ([2] ++ ([3] ++ []))) rfl Sc.nd (vi_zip rfl m_zip (vf_cons (ve_var (pv 0)) (vf_cons (ve_var (pv 1)) vf_nil))) (blkOk_by rfl) (by decide) (fun _ _ _ _ _ => (vg_tup (n := 2) rfl (vgs_cons (vg_name Sc.nd rfl (.inl rfl)) (vgs_cons (vg_name Sc.nd rfl (.inl rfl)) vgs_nil)))) (fun _ _ _ _ _ => vts_nil) (fun _ _ _ _ _ => (ve_gcall G_times (hr.mono (by decide)) rfl W_times.m W_times.F.kp W_times.b (vgv (ve_var (pv 2)) (vgv (ve_var (pv 3)) vg0))))) vg0))))
theorem ok_swept {P : Program} {w : World} {K : Fg} {mg : Str → Option Value} {base : Heap} (hB : HasSys P base) {f : Addr} {fd : FuncData} (W : Fun K "swept" "swept" s_swept f fd) (m_enumerate : mg "enumerate" = none) (m_len : mg "len" = none) (m_range : mg "range" = none) (m_zip : mg "zip" = none) {u_NOUGHT_solving : Value} (c_NOUGHT_solving : mg "NOUGHT_solving" = some u_NOUGHT_solving ∧ KRep K k_NOUGHT_solving u_NOUGHT_solving) (W_over : Fx K mg "over" s_over ["a", "b"]) (G_over : GOk P w K mg base 42 W_over.f W_over.fd ["a", "b"] (liftSp K [false, false] sp_over)) (W_minus : Fx K mg "minus" s_minus ["a", "b"]) (G_minus : GOk P w K mg base 42 W_minus.f W_minus.fd ["a", "b"] (liftSp K [false, false] sp_minus)) (W_times : Fx K mg "times" s_times ["a", "b"]) (G_times : GOk P w K mg base 42 W_times.f W_times.fd ["a", "b"] (liftSp K [false, false] sp_times)) : GOk P w K mg base 43 f fd ["rows", "place"] (liftSp K [false, false] sp_swept) := by
  have Sc := sc_swept
  refine fn_g (r := rd_swept) W Sc rfl (fun cdv A outer s H E hr hP => ?_) rp_swept
  exact (vss_cons (vs_set (i := 2) Sc.nd rfl (.inl rfl) (ve_at (vo_e (ve_lc (own := [("k", 6)]) (is := [6]) rfl Sc.nd (vi_rng2 rfl m_range (vf_cons (ve_var (pv 1)) (vf_cons (ve_cb (g := gLen) call_lenV lk_len rfl m_len bt_len (va_cons (vo_v (pv 0)) va_nil)) vf_nil))) (blkOk_by rfl) (by decide) (fun _ _ _ _ _ => (vg_name Sc.nd rfl (.inl rfl))) (fun _ _ _ _ _ => (vts_one (vt_cmp (op_neD (hu64 hr.rm)) lk_ne (vo_e (ve_at (vo_e (ve_at (vo_v (pv 0)) (vo_v (pv 6)))) (vo_v (pv 1)))) (vo_e (ve_k rfl c_NOUGHT_solving)) (nomark _)))) (fun _ _ _ _ _ => (ve_var (pv 6))))) (vo_e ve_int)))
    (vx rx_swept_2 (vss_cons (vs_set (i := 3) Sc.nd rfl (.inr rfl) (ve_addA (vo_e (ve_addA (vo_e (ve_addA (vo_e (ve_slA (vo_v (pv 0)) vp_none (vp_some (ve_var (pv 1))))) (vo_e (ve_lst (vf_cons (ve_at (vo_v (pv 0)) (vo_v (pv 2))) vf_nil))))) (vo_e (ve_slA (vo_v (pv 0)) (vp_some (ve_var (pv 1))) (vp_some (ve_var (pv 2))))))) (vo_e (ve_slA (vo_v (pv 0)) (vp_some (ve_addA (vo_v (pv 2)) (vo_e ve_int))) vp_none))))
    (vx rx_swept_3 (vss_cons (vs_setLc (i := 4) (own := [("part", 8)]) (is := [8]) rfl Sc.nd rfl rfl (sw_true rfl rfl rfl (by decide +kernel)) (vi_seq (ve_at (vo_v (pv 3)) (vo_v (pv 1)))) (blkOk_by rfl) (by decide) (fun _ _ _ _ _ => (vg_name Sc.nd rfl (.inl rfl))) (fun _ _ _ _ _ => vts_nil) (fun _ _ _ _ _ => (ve_gcall G_over (hr.mono (by decide)) rfl W_over.m W_over.F.kp W_over.b (vgv (ve_var (pv 8)) (vgv (ve_at (vo_e (ve_at (vo_v (pv 3)) (vo_v (pv 1)))) (vo_v (pv 1))) vg0)))))
    (vx rx_swept_4 (vss_cons (vs_set (i := 5) Sc.nd rfl (.inl rfl) (ve_lst vf_nil))
    (vx rx_swept_5 (vss_cons (vs_fzS (i := 4) (vs_for PassesOwn.never rfl (vi_w (ws := [6, 7]) (vi_enumA rfl m_enumerate (vf_cons (ve_var (pv 3)) vf_nil))) (vg_tup (n := 2) rfl (vgs_cons (vg_name Sc.nd rfl (.inl rfl)) (vgs_cons (vg_name Sc.nd rfl (.inr rfl)) vgs_nil))) (vss_w (ws := [6, 7]) (vx rx_swept_6 (vss_one (vs_if (vt_cmp (op_eqD (hu64 hr.rm)) lk_eq (vo_v (pv 6)) (vo_v (pv 1)) (nomark _)) (vss_one (vs_expr (ve_append (pv 5) (vf_cons (ve_var (pv 4)) vf_nil)))) (vss_one (vs_if (vt_cmp (op_eqD (hu64 hr.rm)) lk_eq (vo_e (ve_at (vo_v (pv 7)) (vo_v (pv 1)))) (vo_e (ve_k rfl c_NOUGHT_solving)) (nomark _)) (vss_one (vs_expr (ve_append (pv 5) (vf_cons (ve_var (pv 7)) vf_nil)))) (vss_one (vs_expr (ve_append (pv 5) (vf_cons (ve_lc (own := [("part", 8), ("other", 9)]) (is := ([8] ++ ([9] ++ []))) rfl Sc.nd (vi_zipA rfl m_zip (vf_cons (ve_var (pv 7)) (vf_cons (ve_var (pv 4)) vf_nil))) (blkOk_by rfl) (by decide) (fun _ _ _ _ _ => (vg_tup (n := 2) rfl (vgs_cons (vg_name Sc.nd rfl (.inl rfl)) (vgs_cons (vg_name Sc.nd rfl (.inl rfl)) vgs_nil)))) (fun _ _ _ _ _ => vts_nil) (fun _ _ _ _ _ => (ve_gcall G_minus (hr.mono (by decide)) rfl W_minus.m W_minus.F.kp W_minus.b (vgv (ve_var (pv 8)) (vgv (ve_gcall G_times (hr.mono (by decide)) rfl W_times.m W_times.F.kp W_times.b (vgv (ve_at (vo_v (pv 7)) (vo_v (pv 1))) (vgv (ve_var (pv 9)) vg0))) vg0))))) vf_nil))))))))))))
    (vx rx_swept_12 (vss_one (vs_ret (ve_move (pv 5))))))))))))))
theorem ok_solved {P : Program} {w : World} {K : Fg} {mg : Str → Option Value} {base : Heap} (hB : HasSys P base) {f : Addr} {fd : FuncData} (W : Fun K "solved" "solved" s_solved f fd) (m_len : mg "len" = none) (m_range : mg "range" = none) (W_swept : Fx K mg "swept" s_swept ["rows", "place"]) (G_swept : GOk P w K mg base 43 W_swept.f W_swept.fd ["rows", "place"] (liftSp K [false, false] sp_swept)) : GOk P w K mg base 44 f fd ["rows"] (liftSp K [false] sp_solved) := by
  have Sc := sc_solved
  refine fn_g (r := rd_solved) W Sc rfl (fun cdv A outer s H E hr hP => ?_) rp_solved
  exact (vss_cons (vs_for PassesOwn.never rfl (vi_w (ws := [1]) (vi_rng1 rfl m_range (vf_cons (ve_cb (g := gLen) call_lenV lk_len rfl m_len bt_len (va_cons (vo_v (pv 0)) va_nil)) vf_nil))) (vg_name Sc.nd rfl (.inl rfl)) (vss_w (ws := [1]) (vx rx_solved_2 (vss_one (vs_set (i := 0) Sc.nd rfl (.inr rfl) (ve_gcall G_swept (hr.mono (by decide)) rfl W_swept.m W_swept.F.kp W_swept.b (vgv (ve_var (pv 0)) (vgv (ve_var (pv 1)) vg0))))))))
    (vx rx_solved_3 (vss_one (vs_ret (ve_lc (own := [("row", 2)]) (is := [2]) rfl Sc.nd (vi_seq (ve_var (pv 0))) (blkOk_by rfl) (by decide) (fun _ _ _ _ _ => (vg_name Sc.nd rfl (.inl rfl))) (fun _ _ _ _ _ => vts_nil) (fun _ _ _ _ _ => (ve_slA (vo_v (pv 2)) (vp_some (ve_cb (g := gLen) call_lenV lk_len rfl m_len bt_len (va_cons (vo_v (pv 0)) va_nil))) vp_none)))))))
theorem ok_leads_of {P : Program} {w : World} {K : Fg} {mg : Str → Option Value} {base : Heap} (hB : HasSys P base) {f : Addr} {fd : FuncData} (W : Fun K "leads_of" "leads_of" s_leads_of f fd) (m_len : mg "len" = none) (m_zip : mg "zip" = none) {u_NOUGHT_endless : Value} (c_NOUGHT_endless : mg "NOUGHT_endless" = some u_NOUGHT_endless ∧ KRep K k_NOUGHT_endless u_NOUGHT_endless) (W_times : Fx K mg "times" s_times ["a", "b"]) (G_times : GOk P w K mg base 42 W_times.f W_times.fd ["a", "b"] (liftSp K [false, false] sp_times)) : GOk P w K mg base 43 f fd ["land", "share", "habit"] (liftSp K [false, false, false] sp_leads_of) := by
  have Sc := sc_leads_of
  refine fn_g (r := rd_leads_of) W Sc rfl (fun cdv A outer s H E hr hP => ?_) rp_leads_of
  exact (vss_cons (vs_set (i := 3) Sc.nd rfl (.inl rfl) (ve_lst vf_nil))
    (vx rx_leads_of_2 (vss_cons (vs_for PassesOwn.never rfl (vi_w (ws := [4, 5, 6, 7, 8]) (vi_zipA rfl m_zip (vf_cons (ve_at (vo_v (pv 0)) (vo_e ve_int)) (vf_cons (ve_var (pv 2)) vf_nil)))) (vg_tup (n := 2) rfl (vgs_cons (vg_name Sc.nd rfl (.inl rfl)) (vgs_cons (vg_name Sc.nd rfl (.inl rfl)) vgs_nil))) (vss_w (ws := [4, 5, 6, 7, 8]) (vx rx_leads_of_3 (vss_cons (vs_set (i := 6) Sc.nd rfl (.inl rfl) (ve_rep (vo_e (ve_lst (vf_cons (ve_k rfl c_NOUGHT_endless) vf_nil))) (vo_e (ve_cb (g := gLen) call_lenV lk_len rfl m_len bt_len (va_cons (vo_e (ve_at (vo_v (pv 0)) (vo_e ve_int))) va_nil)))))
    (vx rx_leads_of_4 (vss_cons (vs_for PassesOwn.never rfl (vi_w (ws := [7, 8]) (vi_seq (ve_if (vt_cmp op_ge lk_ge (vo_v (pv 5)) (vo_e ve_int) (nomark _)) (ve_at (vo_e (ve_at (vo_e (ve_at (vo_v (pv 4)) (vo_e ve_int))) (vo_v (pv 5)))) (vo_e ve_int)) (ve_lst vf_nil)))) (vg_tup (n := 2) rfl (vgs_cons (vg_name Sc.nd rfl (.inl rfl)) (vgs_cons (vg_name Sc.nd rfl (.inl rfl)) vgs_nil))) (vss_w (ws := [7, 8]) (vx rx_leads_of_5 (vss_one (vs_setIx (ve_gcall G_times (hr.mono (by decide)) rfl W_times.m W_times.F.kp W_times.b (vgv (ve_var (pv 1)) (vgv (ve_var (pv 8)) vg0))) (pv 6) (ve_var (pv 7)))))))
    (vx rx_leads_of_6 (vss_one (vs_expr (ve_append (pv 3) (vf_cons (ve_var (pv 6)) vf_nil)))))))))))
    (vx rx_leads_of_7 (vss_one (vs_ret (ve_move (pv 3))))))))
theorem ok_habit_sums {P : Program} {w : World} {K : Fg} {mg : Str → Option Value} {base : Heap} (hB : HasSys P base) {f : Addr} {fd : FuncData} (W : Fun K "habit_sums" "habit_sums" s_habit_sums f fd) (m_enumerate : mg "enumerate" = none) (m_list : mg "list" = none) (m_tuple : mg "tuple" = none) {u_NOUGHT_endless : Value} (c_NOUGHT_endless : mg "NOUGHT_endless" = some u_NOUGHT_endless ∧ KRep K k_NOUGHT_endless u_NOUGHT_endless) {u_ONE : Value} (c_ONE : mg "ONE" = some u_ONE ∧ KRep K k_ONE u_ONE) (W_leads_of : Fx K mg "leads_of" s_leads_of ["land", "share", "habit"]) (G_leads_of : GOk P w K mg base 43 W_leads_of.f W_leads_of.fd ["land", "share", "habit"] (liftSp K [false, false, false] sp_leads_of)) (W_minus : Fx K mg "minus" s_minus ["a", "b"]) (G_minus : GOk P w K mg base 42 W_minus.f W_minus.fd ["a", "b"] (liftSp K [false, false] sp_minus)) (W_solved : Fx K mg "solved" s_solved ["rows"]) (G_solved : GOk P w K mg base 44 W_solved.f W_solved.fd ["rows"] (liftSp K [false] sp_solved)) : GOk P w K mg base 45 f fd ["land", "share", "habit"] (liftSp K [false, false, false] sp_habit_sums) := by
  have Sc := sc_habit_sums
  refine fn_g (r := rd_habit_sums) W Sc rfl (fun cdv A outer s H E hr hP => ?_) rp_habit_sums
  exact (vss_cons (vs_set (i := 3) Sc.nd rfl (.inl rfl) (ve_lst vf_nil))
    (vx rx_habit_sums_2 (vss_cons (vs_for PassesOwn.never rfl (vi_w (ws := [4, 5, 6, 7, 8]) (vi_enumA rfl m_enumerate (vf_cons (ve_gcall G_leads_of (hr.mono (by decide)) rfl W_leads_of.m W_leads_of.F.kp W_leads_of.b (vgv (ve_var (pv 0)) (vgv (ve_var (pv 1)) (vgv (ve_var (pv 2)) vg0)))) vf_nil))) (vg_tup (n := 2) rfl (vgs_cons (vg_name Sc.nd rfl (.inr rfl)) (vgs_cons (vg_name Sc.nd rfl (.inl rfl)) vgs_nil))) (vss_w (ws := [4, 5, 6, 7, 8]) (vx rx_habit_sums_3 (vss_cons (vs_par (i := 6) (j := 7) rfl Sc.nd rfl rfl (by decide) rfl rfl (ve_at (vo_e (ve_at (vo_v (pv 0)) (vo_e ve_int))) (vo_v (pv 4))) (ve_at (vo_v (pv 2)) (vo_v (pv 4))) (by rfl))
    (vx rx_habit_sums_4 (vss_cons (vs_setLc (i := 8) (own := [("k", 9), ("part", 10)]) (is := ([9] ++ ([10] ++ []))) rfl Sc.nd rfl rfl (sw_true rfl rfl rfl (by decide +kernel)) (vi_enumA rfl m_enumerate (vf_cons (ve_var (pv 5)) vf_nil)) (blkOk_by rfl) (by decide) (fun _ _ _ _ _ => (vg_tup (n := 2) rfl (vgs_cons (vg_name Sc.nd rfl (.inl rfl)) (vgs_cons (vg_name Sc.nd rfl (.inl rfl)) vgs_nil)))) (fun _ _ _ _ _ => vts_nil) (fun _ _ _ _ _ => (ve_gcall G_minus (hr.mono (by decide)) rfl W_minus.m W_minus.F.kp W_minus.b (vgv (ve_if (vt_cmp (op_eqD (hu64 hr.rm)) lk_eq (vo_v (pv 9)) (vo_v (pv 4)) (nomark _)) (ve_k rfl c_ONE) (ve_k rfl c_NOUGHT_endless)) (vgv (ve_var (pv 10)) vg0)))))
    (vx rx_habit_sums_5 (vss_one (vs_expr (ve_append (pv 3) (vf_cons (ve_addA (vo_v (pv 8)) (vo_e (ve_ct (g := gListOf) call_list_of lk_listOf rfl m_list bt_list (va_cons (vo_e (ve_if (vt_cmp op_lt lk_lt (vo_v (pv 7)) (vo_e ve_int) (nomark _)) (ve_at (vo_v (pv 6)) (vo_e ve_int)) (ve_at (vo_e (ve_at (vo_e (ve_at (vo_v (pv 6)) (vo_e ve_int))) (vo_v (pv 7)))) (vo_e ve_int)))) va_nil)))) vf_nil)))))))))))
    (vx rx_habit_sums_6 (vss_one (vs_ret (ve_lc (own := [("row", 8)]) (is := [8]) rfl Sc.nd (vi_seq (ve_gcall G_solved (hr.mono (by decide)) rfl W_solved.m W_solved.F.kp W_solved.b (vgv (ve_var (pv 3)) vg0))) (blkOk_by rfl) (by decide) (fun _ _ _ _ _ => (vg_name Sc.nd rfl (.inl rfl))) (fun _ _ _ _ _ => vts_nil) (fun _ _ _ _ _ => (ve_ct (g := gTupOf) call_tuple_of lk_tupOf rfl m_tuple bt_tuple (va_cons (vo_v (pv 8)) va_nil))))))))))
theorem ok_deed_height {P : Program} {w : World} {K : Fg} {mg : Str → Option Value} {base : Heap} (hB : HasSys P base) {f : Addr} {fd : FuncData} (W : Fun K "deed_height" "deed_height" s_deed_height f fd) (W_priced : Fx K mg "priced" s_priced ["prices", "worth"]) (G_priced : GOk P w K mg base 44 W_priced.f W_priced.fd ["prices", "worth"] (liftSp K [false, false] sp_priced)) (W_plus : Fx K mg "plus" s_plus ["a", "b"]) (G_plus : GOk P w K mg base 42 W_plus.f W_plus.fd ["a", "b"] (liftSp K [false, false] sp_plus)) (W_times : Fx K mg "times" s_times ["a", "b"]) (G_times : GOk P w K mg base 42 W_times.f W_times.fd ["a", "b"] (liftSp K [false, false] sp_times)) : GOk P w K mg base 45 f fd ["share", "prices", "deed", "heights"] (liftSp K [false, false, false, false] sp_deed_height) := by
  have Sc := sc_deed_height
  refine fn_g (r := rd_deed_height) W Sc rfl (fun cdv A outer s H E hr hP => ?_) rp_deed_height
  exact (vss_cons (vs_set (i := 4) Sc.nd rfl (.inl rfl) (ve_gcall G_priced (hr.mono (by decide)) rfl W_priced.m W_priced.F.kp W_priced.b (vgv (ve_var (pv 1)) (vgv (ve_at (vo_v (pv 2)) (vo_e ve_int)) vg0))))
    (vx rx_deed_height_2 (vss_cons (vs_for PassesOwn.never rfl (vi_w (ws := [5, 6]) (vi_seq (ve_at (vo_v (pv 2)) (vo_e ve_int)))) (vg_tup (n := 2) rfl (vgs_cons (vg_name Sc.nd rfl (.inl rfl)) (vgs_cons (vg_name Sc.nd rfl (.inl rfl)) vgs_nil))) (vss_w (ws := [5, 6]) (vx rx_deed_height_3 (vss_one (vs_set (i := 4) Sc.nd rfl (.inl rfl) (ve_gcall G_plus (hr.mono (by decide)) rfl W_plus.m W_plus.F.kp W_plus.b (vgv (ve_var (pv 4)) (vgv (ve_gcall G_times (hr.mono (by decide)) rfl W_times.m W_times.F.kp W_times.b (vgv (ve_gcall G_times (hr.mono (by decide)) rfl W_times.m W_times.F.kp W_times.b (vgv (ve_var (pv 0)) (vgv (ve_var (pv 6)) vg0))) (vgv (ve_at (vo_v (pv 3)) (vo_v (pv 5))) vg0))) vg0))))))))
    (vx rx_deed_height_4 (vss_one (vs_ret (ve_move (pv 4))))))))
theorem ok_first_habit {P : Program} {w : World} {K : Fg} {mg : Str → Option Value} {base : Heap} (hB : HasSys P base) {f : Addr} {fd : FuncData} (W : Fun K "first_habit" "first_habit" s_first_habit f fd) (m_tuple : mg "tuple" = none) : GOk P w K mg base 40 f fd ["land"] (liftSp K [false] sp_first_habit) := by
  have Sc := sc_first_habit
  refine fn_g (r := rd_first_habit) W Sc rfl (fun cdv A outer s H E hr hP => ?_) rp_first_habit
  exact (vss_one (vs_ret (ve_ct (g := gTupOf) call_tuple_of lk_tupOf rfl m_tuple bt_tuple (va_cons (vo_e (ve_lc (own := [("state", 1)]) (is := [1]) rfl Sc.nd (vi_seq (ve_at (vo_v (pv 0)) (vo_e ve_int))) (blkOk_by rfl) (by decide) (fun _ _ _ _ _ => (vg_name Sc.nd rfl (.inl rfl))) (fun _ _ _ _ _ => vts_nil) (fun _ _ _ _ _ => (ve_if (vt_cmp (op_eqN (hu64 hr.rm)) lk_eqN (vo_e (ve_at (vo_v (pv 1)) (vo_e ve_int))) (vo_e (ve_lst vf_nil)) (nomark _)) (ve_neg ve_int) ve_int)))) va_nil))))
theorem ok_bettered {P : Program} {w : World} {K : Fg} {mg : Str → Option Value} {base : Heap} (hB : HasSys P base) {f : Addr} {fd : FuncData} (W : Fun K "bettered" "bettered" s_bettered f fd) (m_len : mg "len" = none) (m_range : mg "range" = none) (m_tuple : mg "tuple" = none) (m_zip : mg "zip" = none) (W_is_less : Fx K mg "is_less" s_is_less ["a", "b"]) (G_is_less : GOk P w K mg base 40 W_is_less.f W_is_less.fd ["a", "b"] (liftSp K [false, false] sp_is_less)) (W_deed_height : Fx K mg "deed_height" s_deed_height ["share", "prices", "deed", "heights"]) (G_deed_height : GOk P w K mg base 45 W_deed_height.f W_deed_height.fd ["share", "prices", "deed", "heights"] (liftSp K [false, false, false, false] sp_deed_height)) : GOk P w K mg base 46 f fd ["land", "share", "prices", "habit", "heights"] (liftSp K [false, false, false, false, false] sp_bettered) := by
  have Sc := sc_bettered
  refine fn_g (r := rd_bettered) W Sc rfl (fun cdv A outer s H E hr hP => ?_) rp_bettered
  exact (vss_cons (vs_set (i := 5) Sc.nd rfl (.inl rfl) (ve_lst vf_nil))
    (vx rx_bettered_2 (vss_cons (vs_for PassesOwn.never rfl (vi_w (ws := [6, 7, 8, 9]) (vi_zipA rfl m_zip (vf_cons (ve_at (vo_v (pv 0)) (vo_e ve_int)) (vf_cons (ve_var (pv 3)) vf_nil)))) (vg_tup (n := 2) rfl (vgs_cons (vg_name Sc.nd rfl (.inl rfl)) (vgs_cons (vg_name Sc.nd rfl (.inl rfl)) vgs_nil))) (vss_w (ws := [6, 7, 8, 9]) (vx rx_bettered_3 (vss_cons (vs_set (i := 8) Sc.nd rfl (.inl rfl) (ve_var (pv 7)))
    (vx rx_bettered_4 (vss_cons (vs_for PassesOwn.never rfl (vi_w (ws := [9]) (vi_rng1 rfl m_range (vf_cons (ve_cb (g := gLen) call_lenV lk_len rfl m_len bt_len (va_cons (vo_e (ve_at (vo_v (pv 6)) (vo_e ve_int))) va_nil)) vf_nil))) (vg_name Sc.nd rfl (.inl rfl)) (vss_w (ws := [9]) (vx rx_bettered_5 (vss_one (vs_if (vt_val (ve_gcall G_is_less (hr.mono (by decide)) rfl W_is_less.m W_is_less.F.kp W_is_less.b (vgv (ve_gcall G_deed_height (hr.mono (by decide)) rfl W_deed_height.m W_deed_height.F.kp W_deed_height.b (vgv (ve_var (pv 1)) (vgv (ve_var (pv 2)) (vgv (ve_at (vo_e (ve_at (vo_v (pv 6)) (vo_e ve_int))) (vo_v (pv 8))) (vgv (ve_var (pv 4)) vg0))))) (vgv (ve_gcall G_deed_height (hr.mono (by decide)) rfl W_deed_height.m W_deed_height.F.kp W_deed_height.b (vgv (ve_var (pv 1)) (vgv (ve_var (pv 2)) (vgv (ve_at (vo_e (ve_at (vo_v (pv 6)) (vo_e ve_int))) (vo_v (pv 9))) (vgv (ve_var (pv 4)) vg0))))) vg0)))) (vss_one (vs_set (i := 8) Sc.nd rfl (.inl rfl) (ve_var (pv 9)))) vss_nil)))))
    (vx rx_bettered_7 (vss_one (vs_expr (ve_append (pv 5) (vf_cons (ve_var (pv 8)) vf_nil)))))))))))
    (vx rx_bettered_8 (vss_one (vs_ret (ve_ct (g := gTupOf) call_tuple_of lk_tupOf rfl m_tuple bt_tuple (va_cons (vo_v (pv 5)) va_nil))))))))
theorem ok_endless_heights {P : Program} {w : World} {K : Fg} {mg : Str → Option Value} {base : Heap} (hB : HasSys P base) {f : Addr} {fd : FuncData} (W : Fun K "endless_heights" "endless_heights" s_endless_heights f fd) (W_first_habit : Fx K mg "first_habit" s_first_habit ["land"]) (G_first_habit : GOk P w K mg base 40 W_first_habit.f W_first_habit.fd ["land"] (liftSp K [false] sp_first_habit)) (W_habit_sums : Fx K mg "habit_sums" s_habit_sums ["land", "share", "habit"]) (G_habit_sums : GOk P w K mg base 45 W_habit_sums.f W_habit_sums.fd ["land", "share", "habit"] (liftSp K [false, false, false] sp_habit_sums)) (W_priced : Fx K mg "priced" s_priced ["prices", "worth"]) (G_priced : GOk P w K mg base 44 W_priced.f W_priced.fd ["prices", "worth"] (liftSp K [false, false] sp_priced)) (W_bettered : Fx K mg "bettered" s_bettered ["land", "share", "prices", "habit", "heights"]) (G_bettered : GOk P w K mg base 46 W_bettered.f W_bettered.fd ["land", "share", "prices", "habit", "heights"] (liftSp K [false, false, false, false, false] sp_bettered)) : GOk P w K mg base 47 f fd ["land", "share", "prices"] (liftSp K [false, false, false] sp_endless_heights) := by
  have Sc := sc_endless_heights
  refine fn_g (r := rd_endless_heights) W Sc rfl (fun cdv A outer s H E hr hP => ?_) rp_endless_heights
  exact (vss_cons (vs_set (i := 3) Sc.nd rfl (.inl rfl) (ve_gcall G_first_habit (hr.mono (by decide)) rfl W_first_habit.m W_first_habit.F.kp W_first_habit.b (vgv (ve_var (pv 0)) vg0)))
    (vx rx_endless_heights_2 (vss_cons (vs_set (i := 4) Sc.nd rfl (.inl rfl) ve_bl)
    (vx rx_endless_heights_3 (vss_cons (vs_w (ws := [6]) (vs_while PassesOwn.never (vt_val (ve_var (pv 4))) (vss_w (ws := [6]) (vx rx_endless_heights_4 (vss_cons (vs_setLc (i := 5) (own := [("worth", 7)]) (is := [7]) rfl Sc.nd rfl rfl (sw_true rfl rfl rfl (by decide +kernel)) (vi_seq (ve_gcall G_habit_sums (hr.mono (by decide)) rfl W_habit_sums.m W_habit_sums.F.kp W_habit_sums.b (vgv (ve_var (pv 0)) (vgv (ve_var (pv 1)) (vgv (ve_var (pv 3)) vg0))))) (blkOk_by rfl) (by decide) (fun _ _ _ _ _ => (vg_name Sc.nd rfl (.inl rfl))) (fun _ _ _ _ _ => vts_nil) (fun _ _ _ _ _ => (ve_gcall G_priced (hr.mono (by decide)) rfl W_priced.m W_priced.F.kp W_priced.b (vgv (ve_var (pv 2)) (vgv (ve_var (pv 7)) vg0)))))
    (vx rx_endless_heights_5 (vss_cons (vs_set (i := 6) Sc.nd rfl (.inl rfl) (ve_lendL (ve_gcall G_bettered (hr.mono (by decide)) rfl W_bettered.m W_bettered.F.kp W_bettered.b (vgv (ve_var (pv 0)) (vgv (ve_var (pv 1)) (vgv (ve_var (pv 2)) (vgv (ve_var (pv 3)) (vgv (ve_var (pv 5)) vg0))))))))
    (vx rx_endless_heights_6 (vss_cons (vs_set (i := 4) Sc.nd rfl (.inl rfl) (ve_cmp (op_neD (hu64 hr.rm)) lk_ne (vo_v (pv 6)) (vo_v (pv 3)) (nomark _)))
    (vx rx_endless_heights_7 (vss_one (vs_set (i := 3) Sc.nd rfl (.inl rfl) (ve_var (pv 6))))))))))))))
    (vx rx_endless_heights_8 (vss_one (vs_ret (ve_move (pv 5))))))))))
theorem ok_tight_deeds {P : Program} {w : World} {K : Fg} {mg : Str → Option Value} {base : Heap} (hB : HasSys P base) {f : Addr} {fd : FuncData} (W : Fun K "tight_deeds" "tight_deeds" s_tight_deeds f fd) (m_enumerate : mg "enumerate" = none) (W_deed_height : Fx K mg "deed_height" s_deed_height ["share", "prices", "deed", "heights"]) (G_deed_height : GOk P w K mg base 45 W_deed_height.f W_deed_height.fd ["share", "prices", "deed", "heights"] (liftSp K [false, false, false, false] sp_deed_height)) : GOk P w K mg base 46 f fd ["land", "share", "prices", "heights"] (liftSp K [false, false, false, false] sp_tight_deeds) := by
  have Sc := sc_tight_deeds
  refine fn_g (r := rd_tight_deeds) W Sc rfl (fun cdv A outer s H E hr hP => ?_) rp_tight_deeds
  exact (vss_cons (vs_set (i := 4) Sc.nd rfl (.inl rfl) (ve_lst vf_nil))
    (vx rx_tight_deeds_2 (vss_cons (vs_for PassesOwn.never rfl (vi_w (ws := [5, 6, 7]) (vi_enumA rfl m_enumerate (vf_cons (ve_at (vo_v (pv 0)) (vo_e ve_int)) vf_nil))) (vg_tup (n := 2) rfl (vgs_cons (vg_name Sc.nd rfl (.inr rfl)) (vgs_cons (vg_name Sc.nd rfl (.inl rfl)) vgs_nil))) (vss_w (ws := [5, 6, 7]) (vx rx_tight_deeds_3 (vss_cons (vs_setLc (i := 7) (own := [("deed", 8)]) (is := [8]) rfl Sc.nd rfl rfl (sw_true rfl rfl rfl (by decide +kernel)) (vi_seq (ve_at (vo_v (pv 6)) (vo_e ve_int))) (blkOk_by rfl) (by decide) (fun _ _ _ _ _ => (vg_name Sc.nd rfl (.inl rfl))) (fun _ _ _ _ _ => vts_nil) (fun _ _ _ _ _ => (ve_gcall G_deed_height (hr.mono (by decide)) rfl W_deed_height.m W_deed_height.F.kp W_deed_height.b (vgv (ve_var (pv 1)) (vgv (ve_var (pv 2)) (vgv (ve_var (pv 8)) (vgv (ve_var (pv 3)) vg0)))))))
    (vx rx_tight_deeds_4 (vss_one (vs_expr (ve_append (pv 4) (vf_cons (ve_lc (own := [("k", 9), ("height", 10)]) (is := ([9] ++ ([10] ++ []))) rfl Sc.nd (vi_enumA rfl m_enumerate (vf_cons (ve_var (pv 7)) vf_nil)) (blkOk_by rfl) (by decide) (fun _ _ _ _ _ => (vg_tup (n := 2) rfl (vgs_cons (vg_name Sc.nd rfl (.inl rfl)) (vgs_cons (vg_name Sc.nd rfl (.inl rfl)) vgs_nil)))) (fun _ _ _ _ _ => (vts_one (vt_cmp (op_eqD (hu64 hr.rm)) lk_eq (vo_v (pv 10)) (vo_e (ve_at (vo_v (pv 3)) (vo_v (pv 5)))) (nomark _)))) (fun _ _ _ _ _ => (ve_var (pv 9)))) vf_nil)))))))))
    (vx rx_tight_deeds_5 (vss_one (vs_ret (ve_move (pv 4))))))))
theorem ok_best_habit {P : Program} {w : World} {K : Fg} {mg : Str → Option Value} {base : Heap} (hB : HasSys P base) {f : Addr} {fd : FuncData} (W : Fun K "best_habit" "best_habit" s_best_habit f fd) (m_tuple : mg "tuple" = none) (W_tight_deeds : Fx K mg "tight_deeds" s_tight_deeds ["land", "share", "prices", "heights"]) (G_tight_deeds : GOk P w K mg base 46 W_tight_deeds.f W_tight_deeds.fd ["land", "share", "prices", "heights"] (liftSp K [false, false, false, false] sp_tight_deeds)) (W_endless_heights : Fx K mg "endless_heights" s_endless_heights ["land", "share", "prices"]) (G_endless_heights : GOk P w K mg base 47 W_endless_heights.f W_endless_heights.fd ["land", "share", "prices"] (liftSp K [false, false, false] sp_endless_heights)) : GOk P w K mg base 48 f fd ["land", "share", "prices"] (liftSp K [false, false, false] sp_best_habit) := by
  have Sc := sc_best_habit
  refine fn_g (r := rd_best_habit) W Sc rfl (fun cdv A outer s H E hr hP => ?_) rp_best_habit
  exact (vss_cons (vs_set (i := 3) Sc.nd rfl (.inl rfl) (ve_gcall G_tight_deeds (hr.mono (by decide)) rfl W_tight_deeds.m W_tight_deeds.F.kp W_tight_deeds.b (vgv (ve_var (pv 0)) (vgv (ve_var (pv 1)) (vgv (ve_var (pv 2)) (vgv (ve_gcall G_endless_heights (hr.mono (by decide)) rfl W_endless_heights.m W_endless_heights.F.kp W_endless_heights.b (vgv (ve_var (pv 0)) (vgv (ve_var (pv 1)) (vgv (ve_var (pv 2)) vg0)))) vg0))))))
    (vss_one (vs_ret (ve_ct (g := gTupOf) call_tuple_of lk_tupOf rfl m_tuple bt_tuple (va_cons (vo_e (ve_lc (own := [("deeds", 4)]) (is := [4]) rfl Sc.nd (vi_seq (ve_var (pv 3))) (blkOk_by rfl) (by decide) (fun _ _ _ _ _ => (vg_name Sc.nd rfl (.inl rfl))) (fun _ _ _ _ _ => vts_nil) (fun _ _ _ _ _ => (ve_if (vt_cmp (op_neN (hu64 hr.rm)) lk_neN (vo_v (pv 4)) (vo_e (ve_lst vf_nil)) (nomark _)) (ve_at (vo_v (pv 4)) (vo_e ve_int)) (ve_neg ve_int))))) va_nil)))))
theorem ok_l_begun {P : Program} {w : World} {K : Fg} {mg : Str → Option Value} {base : Heap} (hB : HasSys P base) {f : Addr} {fd : FuncData} (W : Fun K "_law_begun" "_law_begun" s_l_begun f fd) (m_abs : mg "abs" = none) (m_int : mg "int" = none) (m_len : mg "len" = none) : GOk P w K mg base 40 f fd ["_law_script", "_law_k"] (liftSp K [false, false] sp_l_begun) := by
  have Sc := sc_l_begun
  refine fn_g (r := rd_l_begun) W Sc rfl (fun cdv A outer s H E hr hP => ?_) rp_l_begun
  exact (vss_cons (vs_set (i := 2) Sc.nd rfl (.inl rfl) (ve_if (vt_cmp op_lt lk_lt (vo_v (pv 1)) (vo_e (ve_cb (g := gLen) call_lenV lk_len rfl m_len bt_len (va_cons (vo_v (pv 0)) va_nil))) (nomark _)) (ve_at (vo_v (pv 0)) (vo_v (pv 1))) ve_int))
    (vss_one (vs_ret (ve_lst (vf_cons (ve_mul (vo_e (ve_cb (g := gAbs) call_abs lk_abs rfl m_abs bt_abs (va_cons (vo_v (pv 2)) va_nil))) (vo_e (ve_ct (g := gIntOf) call_int1 lk_intOf rfl m_int bt_int (va_cons (vo_e (ve_cmp op_ge lk_ge (vo_e (ve_cb (g := gAbs) call_abs lk_abs rfl m_abs bt_abs (va_cons (vo_v (pv 2)) va_nil))) (vo_e (ve_pow (vo_e ve_int) (vo_e ve_int))) (nomark _))) va_nil)))) (vf_cons (ve_add (vo_e (ve_add (vo_e (ve_md (vo_v (pv 2)) (vo_e ve_int))) (vo_e (ve_mul (vo_e ve_int) (vo_v (pv 1)))))) (vo_e ve_int)) (vf_cons ve_int vf_nil)))))))
theorem ok_l_draw {P : Program} {w : World} {K : Fg} {mg : Str → Option Value} {base : Heap} (hB : HasSys P base) {f : Addr} {fd : FuncData} (W : Fun K "_law_draw" "_law_draw" s_l_draw f fd)  : GOk P w K mg base 40 f fd ["_law_tape", "_law_many"] (liftSp K [true, false] sp_l_draw) := by
  have Sc := sc_l_draw
  refine fn_g (r := rd_l_draw) W Sc rfl (fun cdv A outer s H E hr hP => ?_) rp_l_draw
  exact (vss_cons (vs_if (vt_cmp op_gt lk_gt (vo_e (ve_at (vo_v (pv 0)) (vo_e ve_int))) (vo_e ve_int) (nomark _)) (vss_cons (vs_set (i := 2) Sc.nd rfl (.inl rfl) (ve_md (vo_e (ve_at (vo_v (pv 0)) (vo_e ve_int))) (vo_v (pv 1))))
    (vss_cons (vs_setIx (ve_fd hr (by decide) hP hB (vo_e (ve_at (vo_v (pv 0)) (vo_e ve_int))) (vo_v (pv 1))) (pv 0) ve_int)
    (vss_one (vs_ret (ve_move (pv 2)))))) vss_nil)
    (vss_cons (vs_setIx (ve_add (vo_e (ve_at (vo_v (pv 0)) (vo_e ve_int))) (vo_e ve_int)) (pv 0) ve_int)
    (vss_cons (vs_set (i := 3) Sc.nd rfl (.inl rfl) (ve_md (vo_e (ve_pow (vo_e (ve_add (vo_e (ve_at (vo_v (pv 0)) (vo_e ve_int))) (vo_e (ve_mul (vo_e ve_int) (vo_e (ve_at (vo_v (pv 0)) (vo_e ve_int))))))) (vo_e ve_int))) (vo_e ve_int)))
    (vss_cons (vs_set (i := 4) Sc.nd rfl (.inl rfl) (ve_md (vo_e (ve_mul (vo_e (ve_add (vo_v (pv 3)) (vo_e (ve_at (vo_v (pv 0)) (vo_e ve_int))))) (vo_e (ve_add (vo_e (ve_add (vo_e (ve_md (vo_v (pv 3)) (vo_e ve_int))) (vo_e ve_int))) (vo_e (ve_at (vo_v (pv 0)) (vo_e ve_int))))))) (vo_e ve_int)))
    (vss_one (vs_ret (ve_md (vo_e (ve_fd hr (by decide) hP hB (vo_e (ve_md (vo_e (ve_add (vo_e (ve_mul (vo_v (pv 4)) (vo_e ve_int))) (vo_v (pv 3)))) (vo_e ve_int))) (vo_e ve_int))) (vo_v (pv 1)))))))))
theorem ok_l_part {P : Program} {w : World} {K : Fg} {mg : Str → Option Value} {base : Heap} (hB : HasSys P base) {f : Addr} {fd : FuncData} (W : Fun K "_law_part" "_law_part" s_l_part f fd) (m_abs : mg "abs" = none) : GOk P w K mg base 40 f fd ["_law_top", "_law_bottom"] (liftSp K [false, false] sp_l_part) := by
  have Sc := sc_l_part
  refine fn_g (r := rd_l_part) W Sc rfl (fun cdv A outer s H E hr hP => ?_) rp_l_part
  exact (vss_cons (vs_par (i := 2) (j := 3) rfl Sc.nd rfl rfl (by decide) rfl rfl (ve_cb (g := gAbs) call_abs lk_abs rfl m_abs bt_abs (va_cons (vo_v (pv 0)) va_nil)) (ve_cb (g := gAbs) call_abs lk_abs rfl m_abs bt_abs (va_cons (vo_v (pv 1)) va_nil)) (by rfl))
    (vss_cons (vs_while PassesOwn.never (vt_cmp op_gt lk_gt (vo_v (pv 3)) (vo_e ve_int) (nomark _)) (vss_one (vs_par (i := 2) (j := 3) rfl Sc.nd rfl rfl (by decide) rfl rfl (ve_var (pv 3)) (ve_md (vo_v (pv 2)) (vo_v (pv 3))) (by rfl))))
    (vss_cons (vs_set (i := 4) Sc.nd rfl (.inl rfl) (ve_if (vt_cmp op_gt lk_gt (vo_v (pv 1)) (vo_e ve_int) (nomark _)) ve_int (ve_neg ve_int)))
    (vss_one (vs_ret (ve_tup (vf_cons (ve_fd hr (by decide) hP hB (vo_e (ve_mul (vo_v (pv 4)) (vo_v (pv 0)))) (vo_v (pv 2))) (vf_cons (ve_fd hr (by decide) hP hB (vo_e (ve_mul (vo_v (pv 4)) (vo_v (pv 1)))) (vo_v (pv 2))) vf_nil))))))))
theorem ok_l_plus {P : Program} {w : World} {K : Fg} {mg : Str → Option Value} {base : Heap} (hB : HasSys P base) {f : Addr} {fd : FuncData} (W : Fun K "_law_plus" "_law_plus" s_l_plus f fd) (W_l_part : Fx K mg "_law_part" s_l_part ["_law_top", "_law_bottom"]) (G__law_part : GOk P w K mg base 40 W_l_part.f W_l_part.fd ["_law_top", "_law_bottom"] (liftSp K [false, false] sp_l_part)) : GOk P w K mg base 41 f fd ["_law_a", "_law_b"] (liftSp K [false, false] sp_l_plus) := by
  have Sc := sc_l_plus
  refine fn_g (r := rd_l_plus) W Sc rfl (fun cdv A outer s H E hr hP => ?_) rp_l_plus
  exact (vss_one (vs_ret (ve_gcall G__law_part (hr.mono (by decide)) rfl W_l_part.m W_l_part.F.kp W_l_part.b (vgv (ve_add (vo_e (ve_mul (vo_e (ve_at (vo_v (pv 0)) (vo_e ve_int))) (vo_e (ve_at (vo_v (pv 1)) (vo_e ve_int))))) (vo_e (ve_mul (vo_e (ve_at (vo_v (pv 1)) (vo_e ve_int))) (vo_e (ve_at (vo_v (pv 0)) (vo_e ve_int)))))) (vgv (ve_mul (vo_e (ve_at (vo_v (pv 0)) (vo_e ve_int))) (vo_e (ve_at (vo_v (pv 1)) (vo_e ve_int)))) vg0)))))
theorem ok_l_times {P : Program} {w : World} {K : Fg} {mg : Str → Option Value} {base : Heap} (hB : HasSys P base) {f : Addr} {fd : FuncData} (W : Fun K "_law_times" "_law_times" s_l_times f fd) (W_l_part : Fx K mg "_law_part" s_l_part ["_law_top", "_law_bottom"]) (G__law_part : GOk P w K mg base 40 W_l_part.f W_l_part.fd ["_law_top", "_law_bottom"] (liftSp K [false, false] sp_l_part)) : GOk P w K mg base 41 f fd ["_law_a", "_law_b"] (liftSp K [false, false] sp_l_times) := by
  have Sc := sc_l_times
  refine fn_g (r := rd_l_times) W Sc rfl (fun cdv A outer s H E hr hP => ?_) rp_l_times
  exact (vss_one (vs_ret (ve_gcall G__law_part (hr.mono (by decide)) rfl W_l_part.m W_l_part.F.kp W_l_part.b (vgv (ve_mul (vo_e (ve_at (vo_v (pv 0)) (vo_e ve_int))) (vo_e (ve_at (vo_v (pv 1)) (vo_e ve_int)))) (vgv (ve_mul (vo_e (ve_at (vo_v (pv 0)) (vo_e ve_int))) (vo_e (ve_at (vo_v (pv 1)) (vo_e ve_int)))) vg0)))))
theorem ok_l_less {P : Program} {w : World} {K : Fg} {mg : Str → Option Value} {base : Heap} (hB : HasSys P base) {f : Addr} {fd : FuncData} (W : Fun K "_law_less" "_law_less" s_l_less f fd)  : GOk P w K mg base 40 f fd ["_law_a", "_law_b"] (liftSp K [false, false] sp_l_less) := by
  have Sc := sc_l_less
  refine fn_g (r := rd_l_less) W Sc rfl (fun cdv A outer s H E hr hP => ?_) rp_l_less
  exact (vss_one (vs_ret (ve_cmp op_lt lk_lt (vo_e (ve_mul (vo_e (ve_at (vo_v (pv 0)) (vo_e ve_int))) (vo_e (ve_at (vo_v (pv 1)) (vo_e ve_int))))) (vo_e (ve_mul (vo_e (ve_at (vo_v (pv 1)) (vo_e ve_int))) (vo_e (ve_at (vo_v (pv 0)) (vo_e ve_int))))) (nomark _))))
theorem ok_l_priced {P : Program} {w : World} {K : Fg} {mg : Str → Option Value} {base : Heap} (hB : HasSys P base) {f : Addr} {fd : FuncData} (W : Fun K "_law_priced" "_law_priced" s_l_priced f fd) (m_zip : mg "zip" = none) (W_l_plus : Fx K mg "_law_plus" s_l_plus ["_law_a", "_law_b"]) (G__law_plus : GOk P w K mg base 41 W_l_plus.f W_l_plus.fd ["_law_a", "_law_b"] (liftSp K [false, false] sp_l_plus)) (W_l_times : Fx K mg "_law_times" s_l_times ["_law_a", "_law_b"]) (G__law_times : GOk P w K mg base 41 W_l_times.f W_l_times.fd ["_law_a", "_law_b"] (liftSp K [false, false] sp_l_times)) : GOk P w K mg base 42 f fd ["_law_prices", "_law_worth_here"] (liftSp K [false, false] sp_l_priced) := by
  have Sc := sc_l_priced
  refine fn_g (r := rd_l_priced) W Sc rfl (fun cdv A outer s H E hr hP => ?_) rp_l_priced
  exact (vss_cons (vs_set (i := 2) Sc.nd rfl (.inl rfl) (ve_tup (vf_cons ve_int (vf_cons ve_int vf_nil))))
    (vss_cons (vs_for PassesOwn.never rfl (vi_zip rfl m_zip (vf_cons (ve_var (pv 0)) (vf_cons (ve_var (pv 1)) vf_nil))) (vg_tup (n := 2) rfl (vgs_cons (vg_name Sc.nd rfl (.inl rfl)) (vgs_cons (vg_name Sc.nd rfl (.inl rfl)) vgs_nil))) (vss_one (vs_set (i := 2) Sc.nd rfl (.inl rfl) (ve_gcall G__law_plus (hr.mono (by decide)) rfl W_l_plus.m W_l_plus.F.kp W_l_plus.b (vgv (ve_var (pv 2)) (vgv (ve_gcall G__law_times (hr.mono (by decide)) rfl W_l_times.m W_l_times.F.kp W_l_times.b (vgv (ve_var (pv 3)) (vgv (ve_var (pv 4)) vg0))) vg0))))))
    (vss_one (vs_ret (ve_move (pv 2))))))
theorem ok_l_number {P : Program} {w : World} {K : Fg} {mg : Str → Option Value} {base : Heap} (hB : HasSys P base) {f : Addr} {fd : FuncData} (W : Fun K "_law_number" "_law_number" s_l_number f fd) (W_l_draw : Fx K mg "_law_draw" s_l_draw ["_law_tape", "_law_many"]) (G__law_draw : GOk P w K mg base 40 W_l_draw.f W_l_draw.fd ["_law_tape", "_law_many"] (liftSp K [true, false] sp_l_draw)) (W_l_part : Fx K mg "_law_part" s_l_part ["_law_top", "_law_bottom"]) (G__law_part : GOk P w K mg base 40 W_l_part.f W_l_part.fd ["_law_top", "_law_bottom"] (liftSp K [false, false] sp_l_part)) : GOk P w K mg base 41 f fd ["_law_tape"] (liftSp K [true] sp_l_number) := by
  have Sc := sc_l_number
  refine fn_g (r := rd_l_number) W Sc rfl (fun cdv A outer s H E hr hP => ?_) rp_l_number
  exact (vss_cons (vs_par3 (i := 1) (j := 2) (l := 3) rfl Sc.nd rfl rfl rfl (by decide) (by decide) (by decide) rfl rfl rfl (ve_gcall G__law_draw (hr.mono (by decide)) rfl W_l_draw.m W_l_draw.F.kp W_l_draw.b (vgs (pv 0) (vgv ve_int vg0))) (ve_sub (vo_e (ve_gcall G__law_draw (hr.mono (by decide)) rfl W_l_draw.m W_l_draw.F.kp W_l_draw.b (vgs (pv 0) (vgv ve_int vg0)))) (vo_e ve_int)) (ve_add (vo_e ve_int) (vo_e (ve_gcall G__law_draw (hr.mono (by decide)) rfl W_l_draw.m W_l_draw.F.kp W_l_draw.b (vgs (pv 0) (vgv ve_int vg0))))) (by rfl))
    (vss_cons (vs_if (vt_cmp (op_eqD (hu64 hr.rm)) lk_eq (vo_v (pv 1)) (vo_e ve_int) (nomark _)) (vss_one (vs_ret (ve_gcall G__law_part (hr.mono (by decide)) rfl W_l_part.m W_l_part.F.kp W_l_part.b (vgv (ve_sub (vo_e (ve_gcall G__law_draw (hr.mono (by decide)) rfl W_l_draw.m W_l_draw.F.kp W_l_draw.b (vgs (pv 0) (vgv (ve_mul (vo_e ve_int) (vo_e (ve_pow (vo_e ve_int) (vo_e ve_int)))) vg0)))) (vo_e (ve_pow (vo_e ve_int) (vo_e ve_int)))) (vgv (ve_add (vo_e ve_int) (vo_e (ve_gcall G__law_draw (hr.mono (by decide)) rfl W_l_draw.m W_l_draw.F.kp W_l_draw.b (vgs (pv 0) (vgv ve_int vg0))))) vg0))))) vss_nil)
    (vss_one (vs_ret (ve_if (vt_cmp op_lt lk_lt (vo_v (pv 1)) (vo_e ve_int) (nomark _)) (ve_tup (vf_cons (ve_var (pv 2)) (vf_cons ve_int vf_nil))) (ve_gcall G__law_part (hr.mono (by decide)) rfl W_l_part.m W_l_part.F.kp W_l_part.b (vgv (ve_var (pv 2)) (vgv (ve_var (pv 3)) vg0))))))))
theorem ok_l_worth {P : Program} {w : World} {K : Fg} {mg : Str → Option Value} {base : Heap} (hB : HasSys P base) {f : Addr} {fd : FuncData} (W : Fun K "_law_worth" "_law_worth" s_l_worth f fd) (m_range : mg "range" = none) (m_tuple : mg "tuple" = none) (W_l_number : Fx K mg "_law_number" s_l_number ["_law_tape"]) (G__law_number : GOk P w K mg base 41 W_l_number.f W_l_number.fd ["_law_tape"] (liftSp K [true] sp_l_number)) : GOk P w K mg base 42 f fd ["_law_tape", "_law_kinds"] (liftSp K [true, false] sp_l_worth) := by
  have Sc := sc_l_worth
  refine fn_g (r := rd_l_worth) W Sc rfl (fun cdv A outer s H E hr hP => ?_) rp_l_worth
  exact (vss_one (vs_ret (ve_ct (g := gTupOf) call_tuple_of lk_tupOf rfl m_tuple bt_tuple (va_cons (vo_e (ve_lc (own := [("_law_kind", 2)]) (is := [2]) rfl Sc.nd (vi_rng1 rfl m_range (vf_cons (ve_var (pv 1)) vf_nil)) (blkOk_by rfl) (by decide) (fun _ _ _ _ _ => (vg_name Sc.nd rfl (.inl rfl))) (fun _ _ _ _ _ => vts_nil) (fun _ _ _ _ _ => (ve_gcall G__law_number (hr.mono (by decide)) rfl W_l_number.m W_l_number.F.kp W_l_number.b (vgs (pv 0) vg0))))) va_nil))))
theorem ok_l_followers {P : Program} {w : World} {K : Fg} {mg : Str → Option Value} {base : Heap} (hB : HasSys P base) {f : Addr} {fd : FuncData} (W : Fun K "_law_followers" "_law_followers" s_l_followers f fd) (m_len : mg "len" = none) (m_list : mg "list" = none) (m_min : mg "min" = none) (m_range : mg "range" = none) (m_sorted : mg "sorted" = none) (m_sum : mg "sum" = none) (W_l_draw : Fx K mg "_law_draw" s_l_draw ["_law_tape", "_law_many"]) (G__law_draw : GOk P w K mg base 40 W_l_draw.f W_l_draw.fd ["_law_tape", "_law_many"] (liftSp K [true, false] sp_l_draw)) (W_l_part : Fx K mg "_law_part" s_l_part ["_law_top", "_law_bottom"]) (G__law_part : GOk P w K mg base 40 W_l_part.f W_l_part.fd ["_law_top", "_law_bottom"] (liftSp K [false, false] sp_l_part)) : GOk P w K mg base 41 f fd ["_law_tape", "_law_states", "_law_most"] (liftSp K [true, false, false] sp_l_followers) := by
  have Sc := sc_l_followers
  refine fn_g (r := rd_l_followers) W Sc rfl (fun cdv A outer s H E hr hP => ?_) rp_l_followers
  exact (vss_cons (vs_par (i := 3) (j := 4) rfl Sc.nd rfl rfl (by decide) rfl rfl (ve_listRg1 m_list m_range (by exact (ve_var (pv 1)))) (ve_lst vf_nil) (by rfl))
    (vss_cons (vs_for PassesOwn.never rfl (vi_rng1 rfl m_range (vf_cons (ve_add (vo_e ve_int) (vo_e (ve_gcall G__law_draw (hr.mono (by decide)) rfl W_l_draw.m W_l_draw.F.kp W_l_draw.b (vgs (pv 0) (vgv (ve_cb (g := gMin) (call_min2 rfl) lk_min rfl m_min bt_min (va_cons (vo_v (pv 1)) (va_cons (vo_v (pv 2)) va_nil))) vg0))))) vf_nil)) (vg_name Sc.nd rfl (.inl rfl)) (vss_cons (vs_set (i := 6) Sc.nd rfl (.inl rfl) (ve_popAt (pv 3) (va_cons (vo_e (ve_gcall G__law_draw (hr.mono (by decide)) rfl W_l_draw.m W_l_draw.F.kp W_l_draw.b (vgs (pv 0) (vgv (ve_cb (g := gLen) call_lenV lk_len rfl m_len bt_len (va_cons (vo_v (pv 3)) va_nil)) vg0)))) va_nil)))
    (vss_one (vs_expr (ve_append (pv 4) (vf_cons (ve_tup (vf_cons (ve_var (pv 6)) (vf_cons (ve_at (vo_e (ve_lst (vf_cons ve_int (vf_cons ve_int (vf_cons ve_int (vf_cons ve_int (vf_cons (ve_add (vo_e ve_int) (vo_e (ve_gcall G__law_draw (hr.mono (by decide)) rfl W_l_draw.m W_l_draw.F.kp W_l_draw.b (vgs (pv 0) (vgv ve_int vg0))))) vf_nil))))))) (vo_e (ve_gcall G__law_draw (hr.mono (by decide)) rfl W_l_draw.m W_l_draw.F.kp W_l_draw.b (vgs (pv 0) (vgv ve_int vg0))))) vf_nil))) vf_nil))))))
    (vss_cons (vs_set (i := 7) Sc.nd rfl (.inr rfl) (ve_cb (g := gSum) (cr_sum rfl) lk_sum rfl m_sum bt_sum (va_cons (vo_e (ve_lc (own := [("_law_state_here", 6), ("_law_weight", 8)]) (is := ([6] ++ ([8] ++ []))) rfl Sc.nd (vi_seq (ve_var (pv 4))) (blkOk_by rfl) (by decide) (fun _ _ _ _ _ => (vg_tup (n := 2) rfl (vgs_cons (vg_name Sc.nd rfl (.inl rfl)) (vgs_cons (vg_name Sc.nd rfl (.inl rfl)) vgs_nil)))) (fun _ _ _ _ _ => vts_nil) (fun _ _ _ _ _ => (ve_var (pv 8))))) va_nil)))
    (vss_one (vs_ret (ve_lc (own := [("_law_state_here", 6), ("_law_weight", 8)]) (is := ([6] ++ ([8] ++ []))) rfl Sc.nd (vi_seq (ve_cb (g := gSortT 2 1099511627776) (cr_sortT (by decide)) lk_sortT rfl m_sorted bt_sorted (va_cons (vo_v (pv 4)) va_nil))) (blkOk_by rfl) (by decide) (fun _ _ _ _ _ => (vg_tup (n := 2) rfl (vgs_cons (vg_name Sc.nd rfl (.inl rfl)) (vgs_cons (vg_name Sc.nd rfl (.inl rfl)) vgs_nil)))) (fun _ _ _ _ _ => vts_nil) (fun _ _ _ _ _ => (ve_tup (vf_cons (ve_var (pv 6)) (vf_cons (ve_gcall G__law_part (hr.mono (by decide)) rfl W_l_part.m W_l_part.F.kp W_l_part.b (vgv (ve_var (pv 8)) (vgv (ve_var (pv 7)) vg0))) vf_nil))))))))))
theorem ok_l_state {P : Program} {w : World} {K : Fg} {mg : Str → Option Value} {base : Heap} (hB : HasSys P base) {f : Addr} {fd : FuncData} (W : Fun K "_law_state" "_law_state" s_l_state f fd) (m_range : mg "range" = none) (W_l_draw : Fx K mg "_law_draw" s_l_draw ["_law_tape", "_law_many"]) (G__law_draw : GOk P w K mg base 40 W_l_draw.f W_l_draw.fd ["_law_tape", "_law_many"] (liftSp K [true, false] sp_l_draw)) (W_l_followers : Fx K mg "_law_followers" s_l_followers ["_law_tape", "_law_states", "_law_most"]) (G__law_followers : GOk P w K mg base 41 W_l_followers.f W_l_followers.fd ["_law_tape", "_law_states", "_law_most"] (liftSp K [true, false, false] sp_l_followers)) (W_l_worth : Fx K mg "_law_worth" s_l_worth ["_law_tape", "_law_kinds"]) (G__law_worth : GOk P w K mg base 42 W_l_worth.f W_l_worth.fd ["_law_tape", "_law_kinds"] (liftSp K [true, false] sp_l_worth)) : GOk P w K mg base 43 f fd ["_law_tape", "_law_kinds", "_law_states", "_law_most"] (liftSp K [true, false, false, false] sp_l_state) := by
  have Sc := sc_l_state
  refine fn_g (r := rd_l_state) W Sc rfl (fun cdv A outer s H E hr hP => ?_) rp_l_state
  exact (vss_cons (vs_set (i := 4) Sc.nd rfl (.inl rfl) (ve_lst vf_nil))
    (vss_cons (vs_for PassesOwn.never rfl (vi_rng1 rfl m_range (vf_cons (ve_at (vo_e (ve_lst (vf_cons ve_int (vf_cons ve_int (vf_cons ve_int (vf_cons ve_int (vf_cons ve_int (vf_cons ve_int vf_nil)))))))) (vo_e (ve_gcall G__law_draw (hr.mono (by decide)) rfl W_l_draw.m W_l_draw.F.kp W_l_draw.b (vgs (pv 0) (vgv ve_int vg0))))) vf_nil)) (vg_name Sc.nd rfl (.inl rfl)) (vss_one (vs_expr (ve_append (pv 4) (vf_cons (ve_tup (vf_cons (ve_gcall G__law_worth (hr.mono (by decide)) rfl W_l_worth.m W_l_worth.F.kp W_l_worth.b (vgs (pv 0) (vgv (ve_var (pv 1)) vg0))) (vf_cons (ve_gcall G__law_followers (hr.mono (by decide)) rfl W_l_followers.m W_l_followers.F.kp W_l_followers.b (vgs (pv 0) (vgv (ve_var (pv 2)) (vgv (ve_var (pv 3)) vg0)))) vf_nil))) vf_nil)))))
    (vss_one (vs_ret (ve_tup (vf_cons (ve_gcall G__law_draw (hr.mono (by decide)) rfl W_l_draw.m W_l_draw.F.kp W_l_draw.b (vgs (pv 0) (vgv (ve_var (pv 1)) vg0))) (vf_cons (ve_gcall G__law_worth (hr.mono (by decide)) rfl W_l_worth.m W_l_worth.F.kp W_l_worth.b (vgs (pv 0) (vgv (ve_var (pv 1)) vg0))) (vf_cons (ve_var (pv 4)) vf_nil))))))))
theorem ok_l_land {P : Program} {w : World} {K : Fg} {mg : Str → Option Value} {base : Heap} (hB : HasSys P base) {f : Addr} {fd : FuncData} (W : Fun K "_law_land" "_law_land" s_l_land f fd) (m_range : mg "range" = none) (W_l_draw : Fx K mg "_law_draw" s_l_draw ["_law_tape", "_law_many"]) (G__law_draw : GOk P w K mg base 40 W_l_draw.f W_l_draw.fd ["_law_tape", "_law_many"] (liftSp K [true, false] sp_l_draw)) (W_l_state : Fx K mg "_law_state" s_l_state ["_law_tape", "_law_kinds", "_law_states", "_law_most"]) (G__law_state : GOk P w K mg base 43 W_l_state.f W_l_state.fd ["_law_tape", "_law_kinds", "_law_states", "_law_most"] (liftSp K [true, false, false, false] sp_l_state)) (W_l_followers : Fx K mg "_law_followers" s_l_followers ["_law_tape", "_law_states", "_law_most"]) (G__law_followers : GOk P w K mg base 41 W_l_followers.f W_l_followers.fd ["_law_tape", "_law_states", "_law_most"] (liftSp K [true, false, false] sp_l_followers)) (W_l_worth : Fx K mg "_law_worth" s_l_worth ["_law_tape", "_law_kinds"]) (G__law_worth : GOk P w K mg base 42 W_l_worth.f W_l_worth.fd ["_law_tape", "_law_kinds"] (liftSp K [true, false] sp_l_worth)) : GOk P w K mg base 44 f fd ["_law_tape", "_law_kinds", "_law_most"] (liftSp K [true, false, false] sp_l_land) := by
  have Sc := sc_l_land
  refine fn_g (r := rd_l_land) W Sc rfl (fun cdv A outer s H E hr hP => ?_) rp_l_land
  exact (vss_cons (vs_set (i := 3) Sc.nd rfl (.inr rfl) (ve_cmp (op_eqD (hu64 hr.rm)) lk_eq (vo_e (ve_gcall G__law_draw (hr.mono (by decide)) rfl W_l_draw.m W_l_draw.F.kp W_l_draw.b (vgs (pv 0) (vgv ve_int vg0)))) (vo_e ve_int) (nomark _)))
    (vss_cons (vs_set (i := 4) Sc.nd rfl (.inr rfl) (ve_if (vt_val (ve_var (pv 3))) (ve_add (vo_e ve_int) (vo_e (ve_gcall G__law_draw (hr.mono (by decide)) rfl W_l_draw.m W_l_draw.F.kp W_l_draw.b (vgs (pv 0) (vgv ve_int vg0))))) (ve_add (vo_e ve_int) (vo_e (ve_gcall G__law_draw (hr.mono (by decide)) rfl W_l_draw.m W_l_draw.F.kp W_l_draw.b (vgs (pv 0) (vgv (ve_var (pv 2)) vg0)))))))
    (vx rx_l_land_3 (vss_cons (vs_setLc (i := 5) (own := [("_law_state_here", 6)]) (is := [6]) rfl Sc.nd rfl rfl (sw_true rfl rfl rfl (by decide +kernel)) (vi_rng1 rfl m_range (vf_cons (ve_var (pv 4)) vf_nil)) (blkOk_by rfl) (by decide) (fun _ _ _ _ _ => (vg_name Sc.nd rfl (.inl rfl))) (fun _ _ _ _ _ => vts_nil) (fun _ _ _ _ _ => (ve_gcall G__law_state (hr.mono (by decide)) rfl W_l_state.m W_l_state.F.kp W_l_state.b (vgs (pv 0) (vgv (ve_var (pv 1)) (vgv (ve_var (pv 4)) (vgv (ve_if (vt_val (ve_var (pv 3))) ve_int ve_int) vg0)))))))
    (vx rx_l_land_4 (vss_cons (vs_if (vt_cmp (op_eqN (hu64 hr.rm)) lk_eqN (vo_e (ve_at (vo_e (ve_at (vo_v (pv 5)) (vo_e ve_int))) (vo_e ve_int))) (vo_e (ve_lst vf_nil)) (nomark _)) (vss_one (vs_setIx (ve_add (vo_e (ve_sl (vo_e (ve_at (vo_v (pv 5)) (vo_e ve_int))) vp_none (vp_some ve_int))) (vo_e (ve_tup (vf_cons (ve_lst (vf_cons (ve_tup (vf_cons (ve_gcall G__law_worth (hr.mono (by decide)) rfl W_l_worth.m W_l_worth.F.kp W_l_worth.b (vgs (pv 0) (vgv (ve_var (pv 1)) vg0))) (vf_cons (ve_gcall G__law_followers (hr.mono (by decide)) rfl W_l_followers.m W_l_followers.F.kp W_l_followers.b (vgs (pv 0) (vgv (ve_var (pv 4)) (vgv ve_int vg0)))) vf_nil))) vf_nil)) vf_nil)))) (pv 5) ve_int)) vss_nil)
    (vx rx_l_land_6 (vss_one (vs_ret (ve_tup (vf_cons (ve_var (pv 1)) (vf_cons (ve_var (pv 5)) vf_nil))))))))))))
theorem ok_l_share {P : Program} {w : World} {K : Fg} {mg : Str → Option Value} {base : Heap} (hB : HasSys P base) {f : Addr} {fd : FuncData} (W : Fun K "_law_share" "_law_share" s_l_share f fd) (W_l_draw : Fx K mg "_law_draw" s_l_draw ["_law_tape", "_law_many"]) (G__law_draw : GOk P w K mg base 40 W_l_draw.f W_l_draw.fd ["_law_tape", "_law_many"] (liftSp K [true, false] sp_l_draw)) (W_l_part : Fx K mg "_law_part" s_l_part ["_law_top", "_law_bottom"]) (G__law_part : GOk P w K mg base 40 W_l_part.f W_l_part.fd ["_law_top", "_law_bottom"] (liftSp K [false, false] sp_l_part)) : GOk P w K mg base 41 f fd ["_law_tape"] (liftSp K [true] sp_l_share) := by
  have Sc := sc_l_share
  refine fn_g (r := rd_l_share) W Sc rfl (fun cdv A outer s H E hr hP => ?_) rp_l_share
  exact (vss_cons (vs_set (i := 1) Sc.nd rfl (.inl rfl) (ve_addA (vo_e ve_int) (vo_e (ve_gcall G__law_draw (hr.mono (by decide)) rfl W_l_draw.m W_l_draw.F.kp W_l_draw.b (vgs (pv 0) (vgv ve_int vg0))))))
    (vss_cons (vs_set (i := 2) Sc.nd rfl (.inl rfl) (ve_lst (vf_cons (ve_tup (vf_cons ve_int (vf_cons ve_int vf_nil))) (vf_cons (ve_tup (vf_cons ve_int (vf_cons ve_int vf_nil))) (vf_cons (ve_tup (vf_cons ve_int (vf_cons ve_int vf_nil))) (vf_cons (ve_tup (vf_cons ve_int (vf_cons ve_int vf_nil))) (vf_cons (ve_tup (vf_cons ve_int (vf_cons ve_int vf_nil))) (vf_cons (ve_tup (vf_cons ve_int (vf_cons ve_int vf_nil))) vf_nil))))))))
    (vss_one (vs_ret (ve_at (vo_e (ve_addA (vo_v (pv 2)) (vo_e (ve_lst (vf_cons (ve_gcall G__law_part (hr.mono (by decide)) rfl W_l_part.m W_l_part.F.kp W_l_part.b (vgv (ve_addA (vo_e ve_int) (vo_e (ve_gcall G__law_draw (hr.mono (by decide)) rfl W_l_draw.m W_l_draw.F.kp W_l_draw.b (vgs (pv 0) (vgv (ve_sub (vo_v (pv 1)) (vo_e ve_int)) vg0))))) (vgv (ve_var (pv 1)) vg0))) vf_nil))))) (vo_e (ve_gcall G__law_draw (hr.mono (by decide)) rfl W_l_draw.m W_l_draw.F.kp W_l_draw.b (vgs (pv 0) (vgv ve_int vg0)))))))))
theorem ok_l_habit {P : Program} {w : World} {K : Fg} {mg : Str → Option Value} {base : Heap} (hB : HasSys P base) {f : Addr} {fd : FuncData} (W : Fun K "_law_habit" "_law_habit" s_l_habit f fd) (m_len : mg "len" = none) (m_tuple : mg "tuple" = none) (W_l_draw : Fx K mg "_law_draw" s_l_draw ["_law_tape", "_law_many"]) (G__law_draw : GOk P w K mg base 40 W_l_draw.f W_l_draw.fd ["_law_tape", "_law_many"] (liftSp K [true, false] sp_l_draw)) : GOk P w K mg base 41 f fd ["_law_tape", "_law_land_here"] (liftSp K [true, false] sp_l_habit) := by
  have Sc := sc_l_habit
  refine fn_g (r := rd_l_habit) W Sc rfl (fun cdv A outer s H E hr hP => ?_) rp_l_habit
  exact (vss_one (vs_ret (ve_ct (g := gTupOf) call_tuple_of lk_tupOf rfl m_tuple bt_tuple (va_cons (vo_e (ve_lc (own := [("_law_state_here", 2)]) (is := [2]) rfl Sc.nd (vi_seq (ve_at (vo_v (pv 1)) (vo_e ve_int))) (blkOk_by rfl) (by decide) (fun _ _ _ _ _ => (vg_name Sc.nd rfl (.inl rfl))) (fun _ _ _ _ _ => vts_nil) (fun _ _ _ _ _ => (ve_if (vt_cmp (op_neN (hu64 hr.rm)) lk_neN (vo_e (ve_at (vo_v (pv 2)) (vo_e ve_int))) (vo_e (ve_lst vf_nil)) (nomark _)) (ve_gcall G__law_draw (hr.mono (by decide)) rfl W_l_draw.m W_l_draw.F.kp W_l_draw.b (vgs (pv 0) (vgv (ve_cb (g := gLen) call_lenV lk_len rfl m_len bt_len (va_cons (vo_e (ve_at (vo_v (pv 2)) (vo_e ve_int))) va_nil)) vg0))) (ve_neg ve_int))))) va_nil))))
theorem ok_l_close {P : Program} {w : World} {K : Fg} {mg : Str → Option Value} {base : Heap} (hB : HasSys P base) {f : Addr} {fd : FuncData} (W : Fun K "_law_close" "_law_close" s_l_close f fd) (m_tuple : mg "tuple" = none) (W_l_draw : Fx K mg "_law_draw" s_l_draw ["_law_tape", "_law_many"]) (G__law_draw : GOk P w K mg base 40 W_l_draw.f W_l_draw.fd ["_law_tape", "_law_many"] (liftSp K [true, false] sp_l_draw)) (W_l_plus : Fx K mg "_law_plus" s_l_plus ["_law_a", "_law_b"]) (G__law_plus : GOk P w K mg base 41 W_l_plus.f W_l_plus.fd ["_law_a", "_law_b"] (liftSp K [false, false] sp_l_plus)) : GOk P w K mg base 42 f fd ["_law_tape", "_law_worth_here"] (liftSp K [true, false] sp_l_close) := by
  have Sc := sc_l_close
  refine fn_g (r := rd_l_close) W Sc rfl (fun cdv A outer s H E hr hP => ?_) rp_l_close
  exact (vss_cons (vs_set (i := 2) Sc.nd rfl (.inr rfl) (ve_at (vo_e (ve_lst (vf_cons (ve_tup (vf_cons ve_int (vf_cons ve_int vf_nil))) (vf_cons (ve_tup (vf_cons ve_int (vf_cons (ve_pow (vo_e ve_int) (vo_e ve_int)) vf_nil))) (vf_cons (ve_tup (vf_cons (ve_neg ve_int) (vf_cons (ve_pow (vo_e ve_int) (vo_e ve_int)) vf_nil))) vf_nil))))) (vo_e (ve_gcall G__law_draw (hr.mono (by decide)) rfl W_l_draw.m W_l_draw.F.kp W_l_draw.b (vgs (pv 0) (vgv ve_int vg0))))))
    (vss_one (vs_ret (ve_ct (g := gTupOf) call_tuple_of lk_tupOf rfl m_tuple bt_tuple (va_cons (vo_e (ve_lc (own := [("_law_part_here", 3)]) (is := [3]) rfl Sc.nd (vi_seq (ve_var (pv 1))) (blkOk_by rfl) (by decide) (fun _ _ _ _ _ => (vg_name Sc.nd rfl (.inl rfl))) (fun _ _ _ _ _ => vts_nil) (fun _ _ _ _ _ => (ve_gcall G__law_plus (hr.mono (by decide)) rfl W_l_plus.m W_l_plus.F.kp W_l_plus.b (vgv (ve_var (pv 3)) (vgv (ve_var (pv 2)) vg0)))))) va_nil)))))
theorem ok_l_many_deeds {P : Program} {w : World} {K : Fg} {mg : Str → Option Value} {base : Heap} (hB : HasSys P base) {f : Addr} {fd : FuncData} (W : Fun K "_law_many_deeds" "_law_many_deeds" s_l_many_deeds f fd) (m_len : mg "len" = none) (m_range : mg "range" = none) (W_l_draw : Fx K mg "_law_draw" s_l_draw ["_law_tape", "_law_many"]) (G__law_draw : GOk P w K mg base 40 W_l_draw.f W_l_draw.fd ["_law_tape", "_law_many"] (liftSp K [true, false] sp_l_draw)) (W_l_followers : Fx K mg "_law_followers" s_l_followers ["_law_tape", "_law_states", "_law_most"]) (G__law_followers : GOk P w K mg base 41 W_l_followers.f W_l_followers.fd ["_law_tape", "_law_states", "_law_most"] (liftSp K [true, false, false] sp_l_followers)) (W_l_worth : Fx K mg "_law_worth" s_l_worth ["_law_tape", "_law_kinds"]) (G__law_worth : GOk P w K mg base 42 W_l_worth.f W_l_worth.fd ["_law_tape", "_law_kinds"] (liftSp K [true, false] sp_l_worth)) : GOk P w K mg base 43 f fd ["_law_tape", "_law_land_here"] (liftSp K [true, false] sp_l_many_deeds) := by
  have Sc := sc_l_many_deeds
  refine fn_g (r := rd_l_many_deeds) W Sc rfl (fun cdv A outer s H E hr hP => ?_) rp_l_many_deeds
  exact (vss_cons (vs_if (vt_cmp op_gt lk_gt (vo_e (ve_gcall G__law_draw (hr.mono (by decide)) rfl W_l_draw.m W_l_draw.F.kp W_l_draw.b (vgs (pv 0) (vgv ve_int vg0)))) (vo_e ve_int) (nomark _)) (vss_one (vs_ret (ve_move (pv 1)))) vss_nil)
    (vx rx_l_many_deeds_3 (vss_cons (vs_asg (ve_at (vo_e (ve_at (vo_v (pv 1)) (vo_e ve_int))) (vo_e ve_int)) (vg_tup (n := 3) rfl (vgs_cons (vg_name Sc.nd rfl (.inl rfl)) (vgs_cons (vg_name Sc.nd rfl (.inl rfl)) (vgs_cons (vg_name Sc.nd rfl (.inl rfl)) vgs_nil)))))
    (vx rx_l_many_deeds_4 (vss_cons (vs_set (i := 5) Sc.nd rfl (.inl rfl) (ve_lst vf_nil))
    (vx rx_l_many_deeds_5 (vss_cons (vs_for PassesOwn.never rfl (vi_w (ws := [6]) (vi_rng1 rfl m_range (vf_cons (ve_addA (vo_e ve_int) (vo_e (ve_gcall G__law_draw (hr.mono (by decide)) rfl W_l_draw.m W_l_draw.F.kp W_l_draw.b (vgs (pv 0) (vgv ve_int vg0))))) vf_nil))) (vg_name Sc.nd rfl (.inl rfl)) (vss_w (ws := [6]) (vx rx_l_many_deeds_6 (vss_one (vs_expr (ve_append (pv 5) (vf_cons (ve_tup (vf_cons (ve_gcall G__law_worth (hr.mono (by decide)) rfl W_l_worth.m W_l_worth.F.kp W_l_worth.b (vgs (pv 0) (vgv (ve_at (vo_v (pv 1)) (vo_e ve_int)) vg0))) (vf_cons (ve_gcall G__law_followers (hr.mono (by decide)) rfl W_l_followers.m W_l_followers.F.kp W_l_followers.b (vgs (pv 0) (vgv (ve_cb (g := gLen) call_lenV lk_len rfl m_len bt_len (va_cons (vo_e (ve_at (vo_v (pv 1)) (vo_e ve_int))) va_nil)) (vgv ve_int vg0)))) vf_nil))) vf_nil)))))))
    (vx rx_l_many_deeds_7 (vss_one (vs_ret (ve_tup (vf_cons (ve_at (vo_v (pv 1)) (vo_e ve_int)) (vf_cons (ve_addA (vo_e (ve_lst (vf_cons (ve_tup (vf_cons (ve_var (pv 2)) (vf_cons (ve_var (pv 3)) (vf_cons (ve_var (pv 5)) vf_nil)))) vf_nil))) (vo_e (ve_slA (vo_e (ve_at (vo_v (pv 1)) (vo_e ve_int))) (vp_some ve_int) vp_none))) vf_nil)))))))))))))
theorem ok_l_doubled {P : Program} {w : World} {K : Fg} {mg : Str → Option Value} {base : Heap} (hB : HasSys P base) {f : Addr} {fd : FuncData} (W : Fun K "_law_doubled" "_law_doubled" s_l_doubled f fd) (m_len : mg "len" = none) (m_list : mg "list" = none) (W_l_draw : Fx K mg "_law_draw" s_l_draw ["_law_tape", "_law_many"]) (G__law_draw : GOk P w K mg base 40 W_l_draw.f W_l_draw.fd ["_law_tape", "_law_many"] (liftSp K [true, false] sp_l_draw)) (W_l_close : Fx K mg "_law_close" s_l_close ["_law_tape", "_law_worth_here"]) (G__law_close : GOk P w K mg base 42 W_l_close.f W_l_close.fd ["_law_tape", "_law_worth_here"] (liftSp K [true, false] sp_l_close)) : GOk P w K mg base 43 f fd ["_law_tape", "_law_land_here"] (liftSp K [true, false] sp_l_doubled) := by
  have Sc := sc_l_doubled
  refine fn_g (r := rd_l_doubled) W Sc rfl (fun cdv A outer s H E hr hP => ?_) rp_l_doubled
  exact (vss_cons (vs_set (i := 2) Sc.nd rfl (.inl rfl) (ve_gcall G__law_draw (hr.mono (by decide)) rfl W_l_draw.m W_l_draw.F.kp W_l_draw.b (vgs (pv 0) (vgv (ve_cb (g := gLen) call_lenV lk_len rfl m_len bt_len (va_cons (vo_e (ve_at (vo_v (pv 1)) (vo_e ve_int))) va_nil)) vg0))))
    (vss_cons (vs_asg (ve_at (vo_e (ve_at (vo_v (pv 1)) (vo_e ve_int))) (vo_v (pv 2))) (vg_tup (n := 3) rfl (vgs_cons (vg_name Sc.nd rfl (.inl rfl)) (vgs_cons (vg_name Sc.nd rfl (.inl rfl)) (vgs_cons (vg_name Sc.nd rfl (.inl rfl)) vgs_nil)))))
    (vss_cons (vs_if (vt_cmp op_in_seq lk_in (vo_e (ve_cb (g := gLen) call_lenV lk_len rfl m_len bt_len (va_cons (vo_v (pv 5)) va_nil))) (vo_e (ve_tup (vf_cons ve_int (vf_cons ve_int (vf_cons ve_int vf_nil))))) rfl) (vss_cons (vs_set (i := 6) Sc.nd rfl (.inl rfl) (ve_ct (g := gListOf) call_list_of lk_listOf rfl m_list bt_list (va_cons (vo_v (pv 5)) va_nil)))
    (vss_cons (vs_expr (ve_insert (pv 6) (vf_cons (ve_gcall G__law_draw (hr.mono (by decide)) rfl W_l_draw.m W_l_draw.F.kp W_l_draw.b (vgs (pv 0) (vgv (ve_addA (vo_e (ve_cb (g := gLen) call_lenV lk_len rfl m_len bt_len (va_cons (vo_v (pv 6)) va_nil))) (vo_e ve_int)) vg0))) (vf_cons (ve_tup (vf_cons (ve_gcall G__law_close (hr.mono (by decide)) rfl W_l_close.m W_l_close.F.kp W_l_close.b (vgs (pv 0) (vgv (ve_at (vo_e (ve_at (vo_v (pv 5)) (vo_e ve_int))) (vo_e ve_int)) vg0))) (vf_cons (ve_ct (g := gListOf) call_list_of lk_listOf rfl m_list bt_list (va_cons (vo_e (ve_at (vo_e (ve_at (vo_v (pv 5)) (vo_e ve_int))) (vo_e ve_int))) va_nil)) vf_nil))) vf_nil))))
    (vss_one (vs_ret (ve_tup (vf_cons (ve_at (vo_v (pv 1)) (vo_e ve_int)) (vf_cons (ve_addA (vo_e (ve_addA (vo_e (ve_slA (vo_e (ve_at (vo_v (pv 1)) (vo_e ve_int))) vp_none (vp_some (ve_var (pv 2))))) (vo_e (ve_lst (vf_cons (ve_tup (vf_cons (ve_var (pv 3)) (vf_cons (ve_var (pv 4)) (vf_cons (ve_var (pv 6)) vf_nil)))) vf_nil))))) (vo_e (ve_slA (vo_e (ve_at (vo_v (pv 1)) (vo_e ve_int))) (vp_some (ve_addA (vo_v (pv 2)) (vo_e ve_int))) vp_none))) vf_nil))))))) vss_nil)
    (vss_one (vs_ret (ve_move (pv 1)))))))
theorem ok_l_deed_height {P : Program} {w : World} {K : Fg} {mg : Str → Option Value} {base : Heap} (hB : HasSys P base) {f : Addr} {fd : FuncData} (W : Fun K "_law_deed_height" "_law_deed_height" s_l_deed_height f fd) (W_l_priced : Fx K mg "_law_priced" s_l_priced ["_law_prices", "_law_worth_here"]) (G__law_priced : GOk P w K mg base 42 W_l_priced.f W_l_priced.fd ["_law_prices", "_law_worth_here"] (liftSp K [false, false] sp_l_priced)) (W_l_plus : Fx K mg "_law_plus" s_l_plus ["_law_a", "_law_b"]) (G__law_plus : GOk P w K mg base 41 W_l_plus.f W_l_plus.fd ["_law_a", "_law_b"] (liftSp K [false, false] sp_l_plus)) (W_l_times : Fx K mg "_law_times" s_l_times ["_law_a", "_law_b"]) (G__law_times : GOk P w K mg base 41 W_l_times.f W_l_times.fd ["_law_a", "_law_b"] (liftSp K [false, false] sp_l_times)) : GOk P w K mg base 43 f fd ["_law_deed", "_law_share_here", "_law_prices", "_law_row"] (liftSp K [false, false, false, false] sp_l_deed_height) := by
  have Sc := sc_l_deed_height
  refine fn_g (r := rd_l_deed_height) W Sc rfl (fun cdv A outer s H E hr hP => ?_) rp_l_deed_height
  exact (vss_cons (vs_set (i := 4) Sc.nd rfl (.inl rfl) (ve_gcall G__law_priced (hr.mono (by decide)) rfl W_l_priced.m W_l_priced.F.kp W_l_priced.b (vgv (ve_var (pv 2)) (vgv (ve_at (vo_v (pv 0)) (vo_e ve_int)) vg0))))
    (vx rx_l_deed_height_2 (vss_cons (vs_for PassesOwn.never rfl (vi_w (ws := [5, 6]) (vi_seq (ve_at (vo_v (pv 0)) (vo_e ve_int)))) (vg_tup (n := 2) rfl (vgs_cons (vg_name Sc.nd rfl (.inl rfl)) (vgs_cons (vg_name Sc.nd rfl (.inl rfl)) vgs_nil))) (vss_w (ws := [5, 6]) (vx rx_l_deed_height_3 (vss_one (vs_set (i := 4) Sc.nd rfl (.inl rfl) (ve_gcall G__law_plus (hr.mono (by decide)) rfl W_l_plus.m W_l_plus.F.kp W_l_plus.b (vgv (ve_var (pv 4)) (vgv (ve_gcall G__law_times (hr.mono (by decide)) rfl W_l_times.m W_l_times.F.kp W_l_times.b (vgv (ve_at (vo_v (pv 3)) (vo_v (pv 5))) (vgv (ve_gcall G__law_times (hr.mono (by decide)) rfl W_l_times.m W_l_times.F.kp W_l_times.b (vgv (ve_var (pv 1)) (vgv (ve_var (pv 6)) vg0))) vg0))) vg0))))))))
    (vx rx_l_deed_height_4 (vss_one (vs_ret (ve_move (pv 4))))))))
theorem ok_l_heights_right {P : Program} {w : World} {K : Fg} {mg : Str → Option Value} {base : Heap} (hB : HasSys P base) {f : Addr} {fd : FuncData} (W : Fun K "_law_heights_right" "_law_heights_right" s_l_heights_right f fd) (m_any : mg "any" = none) (m_enumerate : mg "enumerate" = none) (W_l_deed_height : Fx K mg "_law_deed_height" s_l_deed_height ["_law_deed", "_law_share_here", "_law_prices", "_law_row"]) (G__law_deed_height : GOk P w K mg base 43 W_l_deed_height.f W_l_deed_height.fd ["_law_deed", "_law_share_here", "_law_prices", "_law_row"] (liftSp K [false, false, false, false] sp_l_deed_height)) (W_l_priced : Fx K mg "_law_priced" s_l_priced ["_law_prices", "_law_worth_here"]) (G__law_priced : GOk P w K mg base 42 W_l_priced.f W_l_priced.fd ["_law_prices", "_law_worth_here"] (liftSp K [false, false] sp_l_priced)) (W_l_less : Fx K mg "_law_less" s_l_less ["_law_a", "_law_b"]) (G__law_less : GOk P w K mg base 40 W_l_less.f W_l_less.fd ["_law_a", "_law_b"] (liftSp K [false, false] sp_l_less)) : GOk P w K mg base 44 f fd ["_law_land_here", "_law_share_here", "_law_prices", "_law_told", "_law_habit_here"] (liftSp K [false, false, false, false, false] sp_l_heights_right) := by
  have Sc := sc_l_heights_right
  refine fn_g (r := rd_l_heights_right) W Sc rfl (fun cdv A outer s H E hr hP => ?_) rp_l_heights_right
  exact (vss_cons (vs_for PassesOwn.never rfl (vi_w (ws := [5, 6, 7, 8, 9]) (vi_enumA rfl m_enumerate (vf_cons (ve_at (vo_v (pv 0)) (vo_e ve_int)) vf_nil))) (vg_tup (n := 2) rfl (vgs_cons (vg_name Sc.nd rfl (.inr rfl)) (vgs_cons (vg_tup (n := 3) rfl (vgs_cons (vg_name Sc.nd rfl (.inl rfl)) (vgs_cons (vg_name Sc.nd rfl (.inl rfl)) (vgs_cons (vg_name Sc.nd rfl (.inl rfl)) vgs_nil)))) vgs_nil))) (vss_w (ws := [5, 6, 7, 8, 9]) (vx rx_l_heights_right_2 (vss_cons (vs_setLc (i := 9) (own := [("_law_deed", 10)]) (is := [10]) rfl Sc.nd rfl rfl (sw_true rfl rfl rfl (by decide +kernel)) (vi_seq (ve_var (pv 8))) (blkOk_by rfl) (by decide) (fun _ _ _ _ _ => (vg_name Sc.nd rfl (.inl rfl))) (fun _ _ _ _ _ => vts_nil) (fun _ _ _ _ _ => (ve_gcall G__law_deed_height (hr.mono (by decide)) rfl W_l_deed_height.m W_l_deed_height.F.kp W_l_deed_height.b (vgv (ve_var (pv 10)) (vgv (ve_var (pv 1)) (vgv (ve_var (pv 2)) (vgv (ve_var (pv 3)) vg0)))))))
    (vx rx_l_heights_right_3 (vss_cons (vs_if (vt_w (vw_and (vt_cmp (op_eqN (hu64 hr.rm)) lk_eqN (vo_v (pv 8)) (vo_e (ve_lst vf_nil)) (nomark _)) (vw_and1 (vt_w (vw_or (vt_cmp (op_neD (hu64 hr.rm)) lk_ne (vo_e (ve_at (vo_v (pv 3)) (vo_v (pv 5)))) (vo_e (ve_gcall G__law_priced (hr.mono (by decide)) rfl W_l_priced.m W_l_priced.F.kp W_l_priced.b (vgv (ve_var (pv 2)) (vgv (ve_var (pv 7)) vg0)))) (nomark _)) (vw_or1 (vt_cmp (op_neD (hu64 hr.rm)) lk_ne (vo_e (ve_at (vo_v (pv 4)) (vo_v (pv 5)))) (vo_e (ve_neg ve_int)) (nomark _)))))))) (vss_one (vs_ret ve_bl)) vss_nil)
    (vx rx_l_heights_right_5 (vss_cons (vs_if (vt_w (vw_or (vt_w (vw_and (vt_cmp (op_neN (hu64 hr.rm)) lk_neN (vo_v (pv 8)) (vo_e (ve_lst vf_nil)) (nomark _)) (vw_and1 (vt_cmp (op_notInD (hu65 hr.rm)) lk_notInD (vo_e (ve_at (vo_v (pv 3)) (vo_v (pv 5)))) (vo_v (pv 9)) rfl)))) (vw_or1 (vt_val (ve_cb (g := (gBls fun l => l.any id)) (cr_any rfl) lk_bls rfl m_any bt_any (va_cons (vo_e (ve_lc (own := [("_law_one", 11)]) (is := [11]) rfl Sc.nd (vi_seq (ve_var (pv 9))) (blkOk_by rfl) (by decide) (fun _ _ _ _ _ => (vg_name Sc.nd rfl (.inl rfl))) (fun _ _ _ _ _ => vts_nil) (fun _ _ _ _ _ => (ve_gcall G__law_less (hr.mono (by decide)) rfl W_l_less.m W_l_less.F.kp W_l_less.b (vgv (ve_at (vo_v (pv 3)) (vo_v (pv 5))) (vgv (ve_var (pv 11)) vg0)))))) va_nil)))))) (vss_one (vs_ret ve_bl)) vss_nil)
    (vx rx_l_heights_right_7 (vss_one (vs_if (vt_w (vw_and (vt_cmp (op_neN (hu64 hr.rm)) lk_neN (vo_v (pv 8)) (vo_e (ve_lst vf_nil)) (nomark _)) (vw_and1 (vt_cmp (op_neD (hu64 hr.rm)) lk_ne (vo_e (ve_at (vo_v (pv 4)) (vo_v (pv 5)))) (vo_e (ve_idx (hu65 hr.rm) (pv 9) (va_cons (vo_e (ve_at (vo_v (pv 3)) (vo_v (pv 5)))) va_nil))) (nomark _))))) (vss_one (vs_ret ve_bl)) vss_nil)))))))))))
    (vx rx_l_heights_right_9 (vss_one (vs_ret ve_bl))))
theorem ok_law {P : Program} {w : World} {K : Fg} {mg : Str → Option Value} {base : Heap} (hB : HasSys P base) {f : Addr} {fd : FuncData} (W : Fun K "law" "law" s_law f fd) (m_any : mg "any" = none) (m_isinstance : mg "isinstance" = none) (m_len : mg "len" = none) (m_list : mg "list" = none) (m_max : mg "max" = none) (m_min : mg "min" = none) (m_range : mg "range" = none) (m_repr : mg "repr" = none) (m_tuple : mg "tuple" = none) (m_zip : mg "zip" = none) (W_l_begun : Fx K mg "_law_begun" s_l_begun ["_law_script", "_law_k"]) (G__law_begun : GOk P w K mg base 40 W_l_begun.f W_l_begun.fd ["_law_script", "_law_k"] (liftSp K [false, false] sp_l_begun)) (W_l_draw : Fx K mg "_law_draw" s_l_draw ["_law_tape", "_law_many"]) (G__law_draw : GOk P w K mg base 40 W_l_draw.f W_l_draw.fd ["_law_tape", "_law_many"] (liftSp K [true, false] sp_l_draw)) (W_l_doubled : Fx K mg "_law_doubled" s_l_doubled ["_law_tape", "_law_land_here"]) (G__law_doubled : GOk P w K mg base 43 W_l_doubled.f W_l_doubled.fd ["_law_tape", "_law_land_here"] (liftSp K [true, false] sp_l_doubled)) (W_l_many_deeds : Fx K mg "_law_many_deeds" s_l_many_deeds ["_law_tape", "_law_land_here"]) (G__law_many_deeds : GOk P w K mg base 43 W_l_many_deeds.f W_l_many_deeds.fd ["_law_tape", "_law_land_here"] (liftSp K [true, false] sp_l_many_deeds)) (W_l_land : Fx K mg "_law_land" s_l_land ["_law_tape", "_law_kinds", "_law_most"]) (G__law_land : GOk P w K mg base 44 W_l_land.f W_l_land.fd ["_law_tape", "_law_kinds", "_law_most"] (liftSp K [true, false, false] sp_l_land)) (W_l_share : Fx K mg "_law_share" s_l_share ["_law_tape"]) (G__law_share : GOk P w K mg base 41 W_l_share.f W_l_share.fd ["_law_tape"] (liftSp K [true] sp_l_share)) (W_l_worth : Fx K mg "_law_worth" s_l_worth ["_law_tape", "_law_kinds"]) (G__law_worth : GOk P w K mg base 42 W_l_worth.f W_l_worth.fd ["_law_tape", "_law_kinds"] (liftSp K [true, false] sp_l_worth)) (W_endless_heights : Fx K mg "endless_heights" s_endless_heights ["land", "share", "prices"]) (G_endless_heights : GOk P w K mg base 47 W_endless_heights.f W_endless_heights.fd ["land", "share", "prices"] (liftSp K [false, false, false] sp_endless_heights)) (W_best_habit : Fx K mg "best_habit" s_best_habit ["land", "share", "prices"]) (G_best_habit : GOk P w K mg base 48 W_best_habit.f W_best_habit.fd ["land", "share", "prices"] (liftSp K [false, false, false] sp_best_habit)) (W_l_heights_right : Fx K mg "_law_heights_right" s_l_heights_right ["_law_land_here", "_law_share_here", "_law_prices", "_law_told", "_law_habit_here"]) (G__law_heights_right : GOk P w K mg base 44 W_l_heights_right.f W_l_heights_right.fd ["_law_land_here", "_law_share_here", "_law_prices", "_law_told", "_law_habit_here"] (liftSp K [false, false, false, false, false] sp_l_heights_right)) (W_habit_sums : Fx K mg "habit_sums" s_habit_sums ["land", "share", "habit"]) (G_habit_sums : GOk P w K mg base 45 W_habit_sums.f W_habit_sums.fd ["land", "share", "habit"] (liftSp K [false, false, false] sp_habit_sums)) (W_l_priced : Fx K mg "_law_priced" s_l_priced ["_law_prices", "_law_worth_here"]) (G__law_priced : GOk P w K mg base 42 W_l_priced.f W_l_priced.fd ["_law_prices", "_law_worth_here"] (liftSp K [false, false] sp_l_priced)) (W_l_habit : Fx K mg "_law_habit" s_l_habit ["_law_tape", "_law_land_here"]) (G__law_habit : GOk P w K mg base 41 W_l_habit.f W_l_habit.fd ["_law_tape", "_law_land_here"] (liftSp K [true, false] sp_l_habit)) (W_l_less : Fx K mg "_law_less" s_l_less ["_law_a", "_law_b"]) (G__law_less : GOk P w K mg base 40 W_l_less.f W_l_less.fd ["_law_a", "_law_b"] (liftSp K [false, false] sp_l_less)) : GOk P w K mg base 49 f fd ["_law_script"] (liftSp K [false] sp_law) := by
  have Sc := sc_law
  refine fn_g (r := rd_law) W Sc rfl (fun cdv A outer s H E hr hP => ?_) rp_law
  exact (vss_cons (vs_for PassesOwn.never rfl (vi_w (ws := [1, 2, 3, 4, 5, 6, 7, 8, 9, 10, 11, 12]) (vi_rng1 rfl m_range (vf_cons (ve_cb (g := gMax) (call_max2 rfl) lk_max rfl m_max bt_max (va_cons (vo_e ve_int) (va_cons (vo_e (ve_cb (g := gMin) (call_min2 rfl) lk_min rfl m_min bt_min (va_cons (vo_e (ve_cb (g := gLen) call_lenV lk_len rfl m_len bt_len (va_cons (vo_v (pv 0)) va_nil))) (va_cons (vo_e ve_int) va_nil)))) va_nil))) vf_nil))) (vg_name Sc.nd rfl (.inl rfl)) (vss_w (ws := [1, 2, 3, 4, 5, 6, 7, 8, 9, 10, 11, 12]) (vx rx_law_2 (vss_cons (vs_set (i := 2) Sc.nd rfl (.inl rfl) (ve_gcall G__law_begun (hr.mono (by decide)) rfl W_l_begun.m W_l_begun.F.kp W_l_begun.b (vgv (ve_var (pv 0)) (vgv (ve_var (pv 1)) vg0))))
    (vx rx_law_3 (vss_cons (vs_set (i := 3) Sc.nd rfl (.inl rfl) (ve_addA (vo_e ve_int) (vo_e (ve_gcall G__law_draw (hr.mono (by decide)) rfl W_l_draw.m W_l_draw.F.kp W_l_draw.b (vgs (pv 2) (vgv ve_int vg0))))))
    (vx rx_law_4 (vss_cons (vs_set (i := 4) Sc.nd rfl (.inl rfl) (ve_gcall G__law_doubled (hr.mono (by decide)) rfl W_l_doubled.m W_l_doubled.F.kp W_l_doubled.b (vgs (pv 2) (vgv (ve_gcall G__law_many_deeds (hr.mono (by decide)) rfl W_l_many_deeds.m W_l_many_deeds.F.kp W_l_many_deeds.b (vgs (pv 2) (vgv (ve_gcall G__law_land (hr.mono (by decide)) rfl W_l_land.m W_l_land.F.kp W_l_land.b (vgs (pv 2) (vgv (ve_var (pv 3)) (vgv ve_int vg0)))) vg0))) vg0))))
    (vx rx_law_5 (vss_cons (vs_set (i := 5) Sc.nd rfl (.inl rfl) (ve_gcall G__law_share (hr.mono (by decide)) rfl W_l_share.m W_l_share.F.kp W_l_share.b (vgs (pv 2) vg0)))
    (vx rx_law_6 (vss_cons (vs_asg (ve_tup (vf_cons (ve_gcall G__law_worth (hr.mono (by decide)) rfl W_l_worth.m W_l_worth.F.kp W_l_worth.b (vgs (pv 2) (vgv (ve_var (pv 3)) vg0))) (vf_cons (ve_cb (g := gShowA) (call_reprA hr hB) lk_showA rfl m_repr bt_repr (va_cons (vo_v (pv 4)) va_nil)) vf_nil))) (vg_tup (n := 2) rfl (vgs_cons (vg_name Sc.nd rfl (.inr rfl)) (vgs_cons (vg_name Sc.nd rfl (.inl rfl)) vgs_nil))))
    (vx rx_law_7 (vss_cons (vs_set (i := 8) Sc.nd rfl (.inl rfl) (ve_gcall G_endless_heights (hr.mono (by decide)) rfl W_endless_heights.m W_endless_heights.F.kp W_endless_heights.b (vgv (ve_var (pv 4)) (vgv (ve_var (pv 5)) (vgv (ve_var (pv 6)) vg0)))))
    (vx rx_law_8 (vss_cons (vs_set (i := 9) Sc.nd rfl (.inl rfl) (ve_gcall G_best_habit (hr.mono (by decide)) rfl W_best_habit.m W_best_habit.F.kp W_best_habit.b (vgv (ve_var (pv 4)) (vgv (ve_var (pv 5)) (vgv (ve_var (pv 6)) vg0)))))
    (vx rx_law_9 (vss_cons (vs_if (vt_w (vw_or (vt_not (vt_val (ve_cb (g := gIsi) call_isiV lk_isi rfl m_isinstance bt_isinstance (va_cons (vo_v (pv 8)) (va_cons (vo_e (ve_ty rfl m_list bt_list)) va_nil))))) (vw_or (vt_cmp (op_neD (hu64 hr.rm)) lk_ne (vo_e (ve_cb (g := gLen) call_lenV lk_len rfl m_len bt_len (va_cons (vo_v (pv 8)) va_nil))) (vo_e (ve_cb (g := gLen) call_lenV lk_len rfl m_len bt_len (va_cons (vo_e (ve_at (vo_v (pv 4)) (vo_e ve_int))) va_nil))) (nomark _)) (vw_or1 (vt_not (vt_val (ve_cb (g := gIsi) call_isiV lk_isi rfl m_isinstance bt_isinstance (va_cons (vo_v (pv 9)) (va_cons (vo_e (ve_ty rfl m_tuple bt_tuple)) va_nil))))))))) (vss_one (vs_ret ve_bl)) vss_nil)
    (vx rx_law_11 (vss_cons (vs_if (vt_w (vw_or (vt_cmp (op_neD (hu64 hr.rm)) lk_ne (vo_e (ve_cb (g := gLen) call_lenV lk_len rfl m_len bt_len (va_cons (vo_v (pv 9)) va_nil))) (vo_e (ve_cb (g := gLen) call_lenV lk_len rfl m_len bt_len (va_cons (vo_v (pv 8)) va_nil))) (nomark _)) (vw_or1 (vt_cmp op_ne lk_neS (vo_e (ve_cb (g := gShowA) (call_reprA hr hB) lk_showA rfl m_repr bt_repr (va_cons (vo_v (pv 4)) va_nil))) (vo_v (pv 7)) (nomark _))))) (vss_one (vs_ret ve_bl)) vss_nil)
    (vx rx_law_13 (vss_cons (vs_if (vt_not (vt_val (ve_lend (ve_gcall G__law_heights_right (hr.mono (by decide)) rfl W_l_heights_right.m W_l_heights_right.F.kp W_l_heights_right.b (vgv (ve_var (pv 4)) (vgv (ve_var (pv 5)) (vgv (ve_var (pv 6)) (vgv (ve_var (pv 8)) (vgv (ve_var (pv 9)) vg0))))))))) (vss_one (vs_ret ve_bl)) vss_nil)
    (vx rx_law_15 (vss_cons (vs_if (vt_cmp (op_neD (hu64 hr.rm)) lk_ne (vo_e (ve_lc (own := [("_law_worth_here", 13)]) (is := [13]) rfl Sc.nd (vi_seq (ve_gcall G_habit_sums (hr.mono (by decide)) rfl W_habit_sums.m W_habit_sums.F.kp W_habit_sums.b (vgv (ve_var (pv 4)) (vgv (ve_var (pv 5)) (vgv (ve_var (pv 9)) vg0))))) (blkOk_by rfl) (by decide) (fun _ _ _ _ _ => (vg_name Sc.nd rfl (.inl rfl))) (fun _ _ _ _ _ => vts_nil) (fun _ _ _ _ _ => (ve_gcall G__law_priced (hr.mono (by decide)) rfl W_l_priced.m W_l_priced.F.kp W_l_priced.b (vgv (ve_var (pv 6)) (vgv (ve_var (pv 13)) vg0)))))) (vo_v (pv 8)) (nomark _)) (vss_one (vs_ret ve_bl)) vss_nil)
    (vx rx_law_17 (vss_cons (vs_for PassesOwn.never rfl (vi_w (ws := [10, 11]) (vi_rng1 rfl m_range (vf_cons ve_int vf_nil))) (vg_name Sc.nd rfl (.inl rfl)) (vss_w (ws := [10, 11]) (vx rx_law_18 (vss_cons (vs_set (i := 11) Sc.nd rfl (.inl rfl) (ve_gcall G_habit_sums (hr.mono (by decide)) rfl W_habit_sums.m W_habit_sums.F.kp W_habit_sums.b (vgv (ve_var (pv 4)) (vgv (ve_var (pv 5)) (vgv (ve_gcall G__law_habit (hr.mono (by decide)) rfl W_l_habit.m W_l_habit.F.kp W_l_habit.b (vgs (pv 2) (vgv (ve_var (pv 4)) vg0))) vg0)))))
    (vx rx_law_19 (vss_one (vs_if (vt_val (ve_lend (ve_cb (g := (gBls fun l => l.any id)) (cr_any rfl) lk_bls rfl m_any bt_any (va_cons (vo_e (ve_lc (own := [("_law_one", 14), ("_law_worth_here", 13)]) (is := ([14] ++ ([13] ++ []))) rfl Sc.nd (vi_zipA rfl m_zip (vf_cons (ve_var (pv 8)) (vf_cons (ve_var (pv 11)) vf_nil))) (blkOk_by rfl) (by decide) (fun _ _ _ _ _ => (vg_tup (n := 2) rfl (vgs_cons (vg_name Sc.nd rfl (.inl rfl)) (vgs_cons (vg_name Sc.nd rfl (.inl rfl)) vgs_nil)))) (fun _ _ _ _ _ => vts_nil) (fun _ _ _ _ _ => (ve_gcall G__law_less (hr.mono (by decide)) rfl W_l_less.m W_l_less.F.kp W_l_less.b (vgv (ve_var (pv 14)) (vgv (ve_gcall G__law_priced (hr.mono (by decide)) rfl W_l_priced.m W_l_priced.F.kp W_l_priced.b (vgv (ve_var (pv 6)) (vgv (ve_var (pv 13)) vg0))) vg0)))))) va_nil)))) (vss_one (vs_ret ve_bl)) vss_nil)))))))
    (vx rx_law_21 (vss_cons (vs_set (i := 12) Sc.nd rfl (.inl rfl) (ve_ct (g := gListOf) call_list_of lk_listOf rfl m_list bt_list (va_cons (vo_v (pv 8)) va_nil)))
    (vx rx_law_22 (vss_cons (vs_expr (ve_clear (pv 8)))
    (vx rx_law_23 (vss_one (vs_if (vt_cmp (op_neD (hu64 hr.rm)) lk_ne (vo_e (ve_gcall G_endless_heights (hr.mono (by decide)) rfl W_endless_heights.m W_endless_heights.F.kp W_endless_heights.b (vgv (ve_var (pv 4)) (vgv (ve_var (pv 5)) (vgv (ve_var (pv 6)) vg0))))) (vo_v (pv 12)) (nomark _)) (vss_one (vs_ret ve_bl)) vss_nil)))))))))))))))))))))))))))))))))
    (vx rx_law_25 (vss_one (vs_ret ve_bl))))
theorem all_mk {P : Program} {w : World} {K : Fg} {mg : Str → Option Value} {fa : Addr} (W_divisor_of : Nonempty (Fx K mg "divisor_of" s_divisor_of ["one", "other"])) (W_part_at : Nonempty (Fx K mg "part_at" s_part_at ["top", "bottom"])) (W_plus : Nonempty (Fx K mg "plus" s_plus ["a", "b"])) (W_minus : Nonempty (Fx K mg "minus" s_minus ["a", "b"])) (W_times : Nonempty (Fx K mg "times" s_times ["a", "b"])) (W_over : Nonempty (Fx K mg "over" s_over ["a", "b"])) (W_is_less : Nonempty (Fx K mg "is_less" s_is_less ["a", "b"])) (W_sum_of : Nonempty (Fx K mg "sum_of" s_sum_of ["parts"])) (W_priced : Nonempty (Fx K mg "priced" s_priced ["prices", "worth"])) (W_swept : Nonempty (Fx K mg "swept" s_swept ["rows", "place"])) (W_solved : Nonempty (Fx K mg "solved" s_solved ["rows"])) (W_leads_of : Nonempty (Fx K mg "leads_of" s_leads_of ["land", "share", "habit"])) (W_habit_sums : Nonempty (Fx K mg "habit_sums" s_habit_sums ["land", "share", "habit"])) (W_deed_height : Nonempty (Fx K mg "deed_height" s_deed_height ["share", "prices", "deed", "heights"])) (W_first_habit : Nonempty (Fx K mg "first_habit" s_first_habit ["land"])) (W_bettered : Nonempty (Fx K mg "bettered" s_bettered ["land", "share", "prices", "habit", "heights"])) (W_endless_heights : Nonempty (Fx K mg "endless_heights" s_endless_heights ["land", "share", "prices"])) (W_tight_deeds : Nonempty (Fx K mg "tight_deeds" s_tight_deeds ["land", "share", "prices", "heights"])) (W_best_habit : Nonempty (Fx K mg "best_habit" s_best_habit ["land", "share", "prices"])) (W_l_begun : Nonempty (Fx K mg "_law_begun" s_l_begun ["_law_script", "_law_k"])) (W_l_draw : Nonempty (Fx K mg "_law_draw" s_l_draw ["_law_tape", "_law_many"])) (W_l_part : Nonempty (Fx K mg "_law_part" s_l_part ["_law_top", "_law_bottom"])) (W_l_plus : Nonempty (Fx K mg "_law_plus" s_l_plus ["_law_a", "_law_b"])) (W_l_times : Nonempty (Fx K mg "_law_times" s_l_times ["_law_a", "_law_b"])) (W_l_less : Nonempty (Fx K mg "_law_less" s_l_less ["_law_a", "_law_b"])) (W_l_priced : Nonempty (Fx K mg "_law_priced" s_l_priced ["_law_prices", "_law_worth_here"])) (W_l_number : Nonempty (Fx K mg "_law_number" s_l_number ["_law_tape"])) (W_l_worth : Nonempty (Fx K mg "_law_worth" s_l_worth ["_law_tape", "_law_kinds"])) (W_l_followers : Nonempty (Fx K mg "_law_followers" s_l_followers ["_law_tape", "_law_states", "_law_most"])) (W_l_state : Nonempty (Fx K mg "_law_state" s_l_state ["_law_tape", "_law_kinds", "_law_states", "_law_most"])) (W_l_land : Nonempty (Fx K mg "_law_land" s_l_land ["_law_tape", "_law_kinds", "_law_most"])) (W_l_share : Nonempty (Fx K mg "_law_share" s_l_share ["_law_tape"])) (W_l_habit : Nonempty (Fx K mg "_law_habit" s_l_habit ["_law_tape", "_law_land_here"])) (W_l_close : Nonempty (Fx K mg "_law_close" s_l_close ["_law_tape", "_law_worth_here"])) (W_l_many_deeds : Nonempty (Fx K mg "_law_many_deeds" s_l_many_deeds ["_law_tape", "_law_land_here"])) (W_l_doubled : Nonempty (Fx K mg "_law_doubled" s_l_doubled ["_law_tape", "_law_land_here"])) (W_l_deed_height : Nonempty (Fx K mg "_law_deed_height" s_l_deed_height ["_law_deed", "_law_share_here", "_law_prices", "_law_row"])) (W_l_heights_right : Nonempty (Fx K mg "_law_heights_right" s_l_heights_right ["_law_land_here", "_law_share_here", "_law_prices", "_law_told", "_law_habit_here"])) (m_abs : mg "abs" = none) (m_any : mg "any" = none) (m_enumerate : mg "enumerate" = none) (m_int : mg "int" = none) (m_isinstance : mg "isinstance" = none) (m_len : mg "len" = none) (m_list : mg "list" = none) (m_max : mg "max" = none) (m_min : mg "min" = none) (m_range : mg "range" = none) (m_repr : mg "repr" = none) (m_sorted : mg "sorted" = none) (m_sum : mg "sum" = none) (m_tuple : mg "tuple" = none) (m_zip : mg "zip" = none) {u_NOUGHT_endless : Value} (c_NOUGHT_endless : mg "NOUGHT_endless" = some u_NOUGHT_endless ∧ KRep K k_NOUGHT_endless u_NOUGHT_endless) {u_NOUGHT_solving : Value} (c_NOUGHT_solving : mg "NOUGHT_solving" = some u_NOUGHT_solving ∧ KRep K k_NOUGHT_solving u_NOUGHT_solving) {u_ONE : Value} (c_ONE : mg "ONE" = some u_ONE ∧ KRep K k_ONE u_ONE) {u_ZERO : Value} (c_ZERO : mg "ZERO" = some u_ZERO ∧ KRep K k_ZERO u_ZERO) (Wl : ∃ fd : FuncData, Fun K "law" "law" s_law fa fd ∧ ∀ (s : Shared) (u : Value), BindsTo s fd ⟨[u], []⟩ [("_law_script", u)]) :
    ∃ fd : FuncData, (∀ (s : Shared) (v : Value), BindsTo s fd ⟨[v], []⟩ [("_law_script", v)]) ∧ ∀ base : Heap, K.In base → base.Ns mainGlobals mg → HasSys P base → GOk P w K mg base 49 fa fd ["_law_script"] (liftSp K [false] sp_law) := by
  obtain ⟨W_divisor_of⟩ := W_divisor_of
  obtain ⟨W_part_at⟩ := W_part_at
  obtain ⟨W_plus⟩ := W_plus
  obtain ⟨W_minus⟩ := W_minus
  obtain ⟨W_times⟩ := W_times
  obtain ⟨W_over⟩ := W_over
  obtain ⟨W_is_less⟩ := W_is_less
  obtain ⟨W_sum_of⟩ := W_sum_of
  obtain ⟨W_priced⟩ := W_priced
  obtain ⟨W_swept⟩ := W_swept
  obtain ⟨W_solved⟩ := W_solved
  obtain ⟨W_leads_of⟩ := W_leads_of
  obtain ⟨W_habit_sums⟩ := W_habit_sums
  obtain ⟨W_deed_height⟩ := W_deed_height
  obtain ⟨W_first_habit⟩ := W_first_habit
  obtain ⟨W_bettered⟩ := W_bettered
  obtain ⟨W_endless_heights⟩ := W_endless_heights
  obtain ⟨W_tight_deeds⟩ := W_tight_deeds
  obtain ⟨W_best_habit⟩ := W_best_habit
  obtain ⟨W_l_begun⟩ := W_l_begun
  obtain ⟨W_l_draw⟩ := W_l_draw
  obtain ⟨W_l_part⟩ := W_l_part
  obtain ⟨W_l_plus⟩ := W_l_plus
  obtain ⟨W_l_times⟩ := W_l_times
  obtain ⟨W_l_less⟩ := W_l_less
  obtain ⟨W_l_priced⟩ := W_l_priced
  obtain ⟨W_l_number⟩ := W_l_number
  obtain ⟨W_l_worth⟩ := W_l_worth
  obtain ⟨W_l_followers⟩ := W_l_followers
  obtain ⟨W_l_state⟩ := W_l_state
  obtain ⟨W_l_land⟩ := W_l_land
  obtain ⟨W_l_share⟩ := W_l_share
  obtain ⟨W_l_habit⟩ := W_l_habit
  obtain ⟨W_l_close⟩ := W_l_close
  obtain ⟨W_l_many_deeds⟩ := W_l_many_deeds
  obtain ⟨W_l_doubled⟩ := W_l_doubled
  obtain ⟨W_l_deed_height⟩ := W_l_deed_height
  obtain ⟨W_l_heights_right⟩ := W_l_heights_right
  obtain ⟨fd, Wl, hb⟩ := Wl
  refine ⟨fd, hb, fun base _ _ hB => ?_⟩
  have g_divisor_of := ok_divisor_of (P := P) (w := w) (mg := mg) (base := base) hB W_divisor_of.F 
  have g_part_at := ok_part_at (P := P) (w := w) (mg := mg) (base := base) hB W_part_at.F m_abs W_divisor_of g_divisor_of
  have g_plus := ok_plus (P := P) (w := w) (mg := mg) (base := base) hB W_plus.F W_part_at g_part_at
  have g_minus := ok_minus (P := P) (w := w) (mg := mg) (base := base) hB W_minus.F W_part_at g_part_at
  have g_times := ok_times (P := P) (w := w) (mg := mg) (base := base) hB W_times.F W_part_at g_part_at
  have g_over := ok_over (P := P) (w := w) (mg := mg) (base := base) hB W_over.F W_part_at g_part_at
  have g_is_less := ok_is_less (P := P) (w := w) (mg := mg) (base := base) hB W_is_less.F 
  have g_sum_of := ok_sum_of (P := P) (w := w) (mg := mg) (base := base) hB W_sum_of.F c_ZERO W_plus g_plus
  have g_priced := ok_priced (P := P) (w := w) (mg := mg) (base := base) hB W_priced.F m_zip W_sum_of g_sum_of W_times g_times
  have g_swept := ok_swept (P := P) (w := w) (mg := mg) (base := base) hB W_swept.F m_enumerate m_len m_range m_zip c_NOUGHT_solving W_over g_over W_minus g_minus W_times g_times
  have g_solved := ok_solved (P := P) (w := w) (mg := mg) (base := base) hB W_solved.F m_len m_range W_swept g_swept
  have g_leads_of := ok_leads_of (P := P) (w := w) (mg := mg) (base := base) hB W_leads_of.F m_len m_zip c_NOUGHT_endless W_times g_times
  have g_habit_sums := ok_habit_sums (P := P) (w := w) (mg := mg) (base := base) hB W_habit_sums.F m_enumerate m_list m_tuple c_NOUGHT_endless c_ONE W_leads_of g_leads_of W_minus g_minus W_solved g_solved
  have g_deed_height := ok_deed_height (P := P) (w := w) (mg := mg) (base := base) hB W_deed_height.F W_priced g_priced W_plus g_plus W_times g_times
  have g_first_habit := ok_first_habit (P := P) (w := w) (mg := mg) (base := base) hB W_first_habit.F m_tuple
  have g_bettered := ok_bettered (P := P) (w := w) (mg := mg) (base := base) hB W_bettered.F m_len m_range m_tuple m_zip W_is_less g_is_less W_deed_height g_deed_height
  have g_endless_heights := ok_endless_heights (P := P) (w := w) (mg := mg) (base := base) hB W_endless_heights.F W_first_habit g_first_habit W_habit_sums g_habit_sums W_priced g_priced W_bettered g_bettered
  have g_tight_deeds := ok_tight_deeds (P := P) (w := w) (mg := mg) (base := base) hB W_tight_deeds.F m_enumerate W_deed_height g_deed_height
  have g_best_habit := ok_best_habit (P := P) (w := w) (mg := mg) (base := base) hB W_best_habit.F m_tuple W_tight_deeds g_tight_deeds W_endless_heights g_endless_heights
  have g_l_begun := ok_l_begun (P := P) (w := w) (mg := mg) (base := base) hB W_l_begun.F m_abs m_int m_len
  have g_l_draw := ok_l_draw (P := P) (w := w) (mg := mg) (base := base) hB W_l_draw.F 
  have g_l_part := ok_l_part (P := P) (w := w) (mg := mg) (base := base) hB W_l_part.F m_abs
  have g_l_plus := ok_l_plus (P := P) (w := w) (mg := mg) (base := base) hB W_l_plus.F W_l_part g_l_part
  have g_l_times := ok_l_times (P := P) (w := w) (mg := mg) (base := base) hB W_l_times.F W_l_part g_l_part
  have g_l_less := ok_l_less (P := P) (w := w) (mg := mg) (base := base) hB W_l_less.F 
  have g_l_priced := ok_l_priced (P := P) (w := w) (mg := mg) (base := base) hB W_l_priced.F m_zip W_l_plus g_l_plus W_l_times g_l_times
  have g_l_number := ok_l_number (P := P) (w := w) (mg := mg) (base := base) hB W_l_number.F W_l_draw g_l_draw W_l_part g_l_part
  have g_l_worth := ok_l_worth (P := P) (w := w) (mg := mg) (base := base) hB W_l_worth.F m_range m_tuple W_l_number g_l_number
  have g_l_followers := ok_l_followers (P := P) (w := w) (mg := mg) (base := base) hB W_l_followers.F m_len m_list m_min m_range m_sorted m_sum W_l_draw g_l_draw W_l_part g_l_part
  have g_l_state := ok_l_state (P := P) (w := w) (mg := mg) (base := base) hB W_l_state.F m_range W_l_draw g_l_draw W_l_followers g_l_followers W_l_worth g_l_worth
  have g_l_land := ok_l_land (P := P) (w := w) (mg := mg) (base := base) hB W_l_land.F m_range W_l_draw g_l_draw W_l_state g_l_state W_l_followers g_l_followers W_l_worth g_l_worth
  have g_l_share := ok_l_share (P := P) (w := w) (mg := mg) (base := base) hB W_l_share.F W_l_draw g_l_draw W_l_part g_l_part
  have g_l_habit := ok_l_habit (P := P) (w := w) (mg := mg) (base := base) hB W_l_habit.F m_len m_tuple W_l_draw g_l_draw
  have g_l_close := ok_l_close (P := P) (w := w) (mg := mg) (base := base) hB W_l_close.F m_tuple W_l_draw g_l_draw W_l_plus g_l_plus
  have g_l_many_deeds := ok_l_many_deeds (P := P) (w := w) (mg := mg) (base := base) hB W_l_many_deeds.F m_len m_range W_l_draw g_l_draw W_l_followers g_l_followers W_l_worth g_l_worth
  have g_l_doubled := ok_l_doubled (P := P) (w := w) (mg := mg) (base := base) hB W_l_doubled.F m_len m_list W_l_draw g_l_draw W_l_close g_l_close
  have g_l_deed_height := ok_l_deed_height (P := P) (w := w) (mg := mg) (base := base) hB W_l_deed_height.F W_l_priced g_l_priced W_l_plus g_l_plus W_l_times g_l_times
  have g_l_heights_right := ok_l_heights_right (P := P) (w := w) (mg := mg) (base := base) hB W_l_heights_right.F m_any m_enumerate W_l_deed_height g_l_deed_height W_l_priced g_l_priced W_l_less g_l_less
  exact ok_law hB Wl m_any m_isinstance m_len m_list m_max m_min m_range m_repr m_tuple m_zip W_l_begun g_l_begun W_l_draw g_l_draw W_l_doubled g_l_doubled W_l_many_deeds g_l_many_deeds W_l_land g_l_land W_l_share g_l_share W_l_worth g_l_worth W_endless_heights g_endless_heights W_best_habit g_best_habit W_l_heights_right g_l_heights_right W_habit_sums g_habit_sums W_l_priced g_l_priced W_l_habit g_l_habit W_l_less g_l_less
end VL
open PySem PySem.W PyProof.Rows
set_option maxHeartbeats 0 in
theorem PySem.Challenge.cw_rimplans_k60_heights_without_last_step_holds : PySem.Challenge.rw_rimplans_k60_heights_without_last_step.Holds := by
  w_on; o_law; k_head; (case hw => w_witness2)
  k_fill
  refine VL.walk_g (l := PySem.Challenge.rw_rimplans_k60_heights_without_last_step) (n := 63) (k := 49) (x := "_law_script") (sp := fun K => VL.liftSp K [false] VL.sp_law) rfl (by decide) rfl ⟨⟨rfl, by decide, by decide⟩, rfl⟩ rfl (fun w h Y => PySem.W.kIn_of Y) ?hi ?F (fun _ _ a ns hl hbits hS => VL.law_end hl hbits hS)
  case hi => decide +kernel
  case F =>
    intro w mg fa h KX G hmg
    refine' VL.all_mk (VL.fx_of VL.bd_divisor_of KX G ?a_divisor_of ?l_divisor_of ?c_divisor_of ?k_divisor_of) (VL.fx_of VL.bd_part_at KX G ?a_part_at ?l_part_at ?c_part_at ?k_part_at) (VL.fx_of VL.bd_plus KX G ?a_plus ?l_plus ?c_plus ?k_plus) (VL.fx_of VL.bd_minus KX G ?a_minus ?l_minus ?c_minus ?k_minus) (VL.fx_of VL.bd_times KX G ?a_times ?l_times ?c_times ?k_times) (VL.fx_of VL.bd_over KX G ?a_over ?l_over ?c_over ?k_over) (VL.fx_of VL.bd_is_less KX G ?a_is_less ?l_is_less ?c_is_less ?k_is_less) (VL.fx_of VL.bd_sum_of KX G ?a_sum_of ?l_sum_of ?c_sum_of ?k_sum_of) (VL.fx_of VL.bd_priced KX G ?a_priced ?l_priced ?c_priced ?k_priced) (VL.fx_of VL.bd_swept KX G ?a_swept ?l_swept ?c_swept ?k_swept) (VL.fx_of VL.bd_solved KX G ?a_solved ?l_solved ?c_solved ?k_solved) (VL.fx_of VL.bd_leads_of KX G ?a_leads_of ?l_leads_of ?c_leads_of ?k_leads_of) (VL.fx_of VL.bd_habit_sums KX G ?a_habit_sums ?l_habit_sums ?c_habit_sums ?k_habit_sums) (VL.fx_of VL.bd_deed_height KX G ?a_deed_height ?l_deed_height ?c_deed_height ?k_deed_height) (VL.fx_of VL.bd_first_habit KX G ?a_first_habit ?l_first_habit ?c_first_habit ?k_first_habit) (VL.fx_of VL.bd_bettered KX G ?a_bettered ?l_bettered ?c_bettered ?k_bettered) (VL.fx_of VL.bd_endless_heights KX G ?a_endless_heights ?l_endless_heights ?c_endless_heights ?k_endless_heights) (VL.fx_of VL.bd_tight_deeds KX G ?a_tight_deeds ?l_tight_deeds ?c_tight_deeds ?k_tight_deeds) (VL.fx_of VL.bd_best_habit KX G ?a_best_habit ?l_best_habit ?c_best_habit ?k_best_habit) (VL.fx_of VL.bd_l_begun KX G ?a_l_begun ?l_l_begun ?c_l_begun ?k_l_begun) (VL.fx_of VL.bd_l_draw KX G ?a_l_draw ?l_l_draw ?c_l_draw ?k_l_draw) (VL.fx_of VL.bd_l_part KX G ?a_l_part ?l_l_part ?c_l_part ?k_l_part) (VL.fx_of VL.bd_l_plus KX G ?a_l_plus ?l_l_plus ?c_l_plus ?k_l_plus) (VL.fx_of VL.bd_l_times KX G ?a_l_times ?l_l_times ?c_l_times ?k_l_times) (VL.fx_of VL.bd_l_less KX G ?a_l_less ?l_l_less ?c_l_less ?k_l_less) (VL.fx_of VL.bd_l_priced KX G ?a_l_priced ?l_l_priced ?c_l_priced ?k_l_priced) (VL.fx_of VL.bd_l_number KX G ?a_l_number ?l_l_number ?c_l_number ?k_l_number) (VL.fx_of VL.bd_l_worth KX G ?a_l_worth ?l_l_worth ?c_l_worth ?k_l_worth) (VL.fx_of VL.bd_l_followers KX G ?a_l_followers ?l_l_followers ?c_l_followers ?k_l_followers) (VL.fx_of VL.bd_l_state KX G ?a_l_state ?l_l_state ?c_l_state ?k_l_state) (VL.fx_of VL.bd_l_land KX G ?a_l_land ?l_l_land ?c_l_land ?k_l_land) (VL.fx_of VL.bd_l_share KX G ?a_l_share ?l_l_share ?c_l_share ?k_l_share) (VL.fx_of VL.bd_l_habit KX G ?a_l_habit ?l_l_habit ?c_l_habit ?k_l_habit) (VL.fx_of VL.bd_l_close KX G ?a_l_close ?l_l_close ?c_l_close ?k_l_close) (VL.fx_of VL.bd_l_many_deeds KX G ?a_l_many_deeds ?l_l_many_deeds ?c_l_many_deeds ?k_l_many_deeds) (VL.fx_of VL.bd_l_doubled KX G ?a_l_doubled ?l_l_doubled ?c_l_doubled ?k_l_doubled) (VL.fx_of VL.bd_l_deed_height KX G ?a_l_deed_height ?l_l_deed_height ?c_l_deed_height ?k_l_deed_height) (VL.fx_of VL.bd_l_heights_right KX G ?a_l_heights_right ?l_l_heights_right ?c_l_heights_right ?k_l_heights_right) (PySem.W.mg_none_of KX G ?z_abs) (PySem.W.mg_none_of KX G ?z_any) (PySem.W.mg_none_of KX G ?z_enumerate) (PySem.W.mg_none_of KX G ?z_int) (PySem.W.mg_none_of KX G ?z_isinstance) (PySem.W.mg_none_of KX G ?z_len) (PySem.W.mg_none_of KX G ?z_list) (PySem.W.mg_none_of KX G ?z_max) (PySem.W.mg_none_of KX G ?z_min) (PySem.W.mg_none_of KX G ?z_range) (PySem.W.mg_none_of KX G ?z_repr) (PySem.W.mg_none_of KX G ?z_sorted) (PySem.W.mg_none_of KX G ?z_sum) (PySem.W.mg_none_of KX G ?z_tuple) (PySem.W.mg_none_of KX G ?z_zip) ⟨PySem.W.mg_of KX G ?ka_NOUGHT_endless, .pair (i := 0) (j := 1) ?kl_NOUGHT_endless ?kc_NOUGHT_endless ?kd_NOUGHT_endless⟩ ⟨PySem.W.mg_of KX G ?ka_NOUGHT_solving, .pair (i := 0) (j := 1) ?kl_NOUGHT_solving ?kc_NOUGHT_solving ?kd_NOUGHT_solving⟩ ⟨PySem.W.mg_of KX G ?ka_ONE, .pair (i := 1) (j := 1) ?kl_ONE ?kc_ONE ?kd_ONE⟩ ⟨PySem.W.mg_of KX G ?ka_ZERO, .pair (i := 0) (j := 1) ?kl_ZERO ?kc_ZERO ?kd_ZERO⟩ (VL.fx_law VL.bd_law KX G hmg ?a_law ?l_law ?c_law ?k_law)
    (case a_divisor_of => k_is); (case l_divisor_of => k_is); (case c_divisor_of => k_is); (case k_divisor_of => k_is); (case a_part_at => k_is); (case l_part_at => k_is); (case c_part_at => k_is); (case k_part_at => k_is); (case a_plus => k_is); (case l_plus => k_is); (case c_plus => k_is); (case k_plus => k_is); (case a_minus => k_is); (case l_minus => k_is); (case c_minus => k_is); (case k_minus => k_is); (case a_times => k_is); (case l_times => k_is); (case c_times => k_is); (case k_times => k_is); (case a_over => k_is); (case l_over => k_is); (case c_over => k_is); (case k_over => k_is); (case a_is_less => k_is); (case l_is_less => k_is); (case c_is_less => k_is); (case k_is_less => k_is); (case a_sum_of => k_is); (case l_sum_of => k_is); (case c_sum_of => k_is); (case k_sum_of => k_is); (case a_priced => k_is); (case l_priced => k_is); (case c_priced => k_is); (case k_priced => k_is); (case a_swept => k_is); (case l_swept => k_is); (case c_swept => k_is); (case k_swept => k_is); (case a_solved => k_is); (case l_solved => k_is); (case c_solved => k_is); (case k_solved => k_is); (case a_leads_of => k_is); (case l_leads_of => k_is); (case c_leads_of => k_is); (case k_leads_of => k_is); (case a_habit_sums => k_is); (case l_habit_sums => k_is); (case c_habit_sums => k_is); (case k_habit_sums => k_is); (case a_deed_height => k_is); (case l_deed_height => k_is); (case c_deed_height => k_is); (case k_deed_height => k_is); (case a_first_habit => k_is); (case l_first_habit => k_is); (case c_first_habit => k_is); (case k_first_habit => k_is); (case a_bettered => k_is); (case l_bettered => k_is); (case c_bettered => k_is); (case k_bettered => k_is); (case a_endless_heights => k_is); (case l_endless_heights => k_is); (case c_endless_heights => k_is); (case k_endless_heights => k_is); (case a_tight_deeds => k_is); (case l_tight_deeds => k_is); (case c_tight_deeds => k_is); (case k_tight_deeds => k_is); (case a_best_habit => k_is); (case l_best_habit => k_is); (case c_best_habit => k_is); (case k_best_habit => k_is); (case a_l_begun => k_is); (case l_l_begun => k_is); (case c_l_begun => k_is); (case k_l_begun => k_is); (case a_l_draw => k_is); (case l_l_draw => k_is); (case c_l_draw => k_is); (case k_l_draw => k_is); (case a_l_part => k_is); (case l_l_part => k_is); (case c_l_part => k_is); (case k_l_part => k_is); (case a_l_plus => k_is); (case l_l_plus => k_is); (case c_l_plus => k_is); (case k_l_plus => k_is); (case a_l_times => k_is); (case l_l_times => k_is); (case c_l_times => k_is); (case k_l_times => k_is); (case a_l_less => k_is); (case l_l_less => k_is); (case c_l_less => k_is); (case k_l_less => k_is); (case a_l_priced => k_is); (case l_l_priced => k_is); (case c_l_priced => k_is); (case k_l_priced => k_is); (case a_l_number => k_is); (case l_l_number => k_is); (case c_l_number => k_is); (case k_l_number => k_is); (case a_l_worth => k_is); (case l_l_worth => k_is); (case c_l_worth => k_is); (case k_l_worth => k_is); (case a_l_followers => k_is); (case l_l_followers => k_is); (case c_l_followers => k_is); (case k_l_followers => k_is); (case a_l_state => k_is); (case l_l_state => k_is); (case c_l_state => k_is); (case k_l_state => k_is); (case a_l_land => k_is); (case l_l_land => k_is); (case c_l_land => k_is); (case k_l_land => k_is); (case a_l_share => k_is); (case l_l_share => k_is); (case c_l_share => k_is); (case k_l_share => k_is); (case a_l_habit => k_is); (case l_l_habit => k_is); (case c_l_habit => k_is); (case k_l_habit => k_is); (case a_l_close => k_is); (case l_l_close => k_is); (case c_l_close => k_is); (case k_l_close => k_is); (case a_l_many_deeds => k_is); (case l_l_many_deeds => k_is); (case c_l_many_deeds => k_is); (case k_l_many_deeds => k_is); (case a_l_doubled => k_is); (case l_l_doubled => k_is); (case c_l_doubled => k_is); (case k_l_doubled => k_is); (case a_l_deed_height => k_is); (case l_l_deed_height => k_is); (case c_l_deed_height => k_is); (case k_l_deed_height => k_is); (case a_l_heights_right => k_is); (case l_l_heights_right => k_is); (case c_l_heights_right => k_is); (case k_l_heights_right => k_is); (case z_abs => k_is); (case z_any => k_is); (case z_enumerate => k_is); (case z_int => k_is); (case z_isinstance => k_is); (case z_len => k_is); (case z_list => k_is); (case z_max => k_is); (case z_min => k_is); (case z_range => k_is); (case z_repr => k_is); (case z_sorted => k_is); (case z_sum => k_is); (case z_tuple => k_is); (case z_zip => k_is); (case ka_NOUGHT_endless => k_is); (case kl_NOUGHT_endless => k_is); (case kc_NOUGHT_endless => exact rfl); (case kd_NOUGHT_endless => exact rfl); (case ka_NOUGHT_solving => k_is); (case kl_NOUGHT_solving => k_is); (case kc_NOUGHT_solving => exact rfl); (case kd_NOUGHT_solving => exact rfl); (case ka_ONE => k_is); (case kl_ONE => k_is); (case kc_ONE => exact rfl); (case kd_ONE => exact rfl); (case ka_ZERO => k_is); (case kl_ZERO => k_is); (case kc_ZERO => exact rfl); (case kd_ZERO => exact rfl); (case a_law => k_is); (case l_law => k_is); (case c_law => k_is); (case k_law => k_is)

