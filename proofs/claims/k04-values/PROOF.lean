import PyProof.Rows.All
import Wide.All
import OpenK.AllK
import Wide.FinOn
import HandS.ForMost
import HandS.ForExc
import HandS.TupAny
import HandS.Flow
import HandS.RaiseMore
import HandS.IsInst
import HandS.CallSlots
import HandS.Walk
import PyProof.StrOps2
import HandS.ExcIs
import HandS.ExcField
import HandS.FStr
import HandS.HeadHook3
import KE.IntTextLaws
import KE.KIntText
import HandS.FStrTup
import HandS.Iter
import HandS.Dict
import HandS.WordsDict
import PyProof.ReprDict
import PySem.Challenge.RW_restruct_k04_values
set_option Elab.async false
set_option linter.all false
set_option maxRecDepth 100000
set_option maxHeartbeats 4000000
namespace QL
open PySem PySem.Spec PyProof.Rows L2

/-! ### data without addresses: all that never changes is a value -/
inductive D where
  | non | bl (b : Bool) | int (i : Int) | str (s : List Nat) | tup (xs : List D) | fl (xs : List D) | ob (a : Addr) | ty (n : String) | any
abbrev Tx := List Nat
def tx (s : String) : Tx := s.toList.map Char.toNat
/-- signs that may stand in a text -/
def okc (s : Tx) : Prop := ∀ c ∈ s, c < 0x110000
theorem okc_tx (s : String) : okc (tx s) := fun c hc => by
  unfold tx at hc
  obtain ⟨x, _, rfl⟩ := List.mem_map.mp hc
  have h := x.valid
  have e : x.toNat = x.val.toNat := rfl
  rw [e]
  simp only [UInt32.isValidChar, Nat.isValidChar] at h
  omega
theorem okc_nil : okc [] := fun c h => by cases h
theorem okc_append {a b : Tx} (h : okc a) (k : okc b) : okc (a ++ b) := fun c hc => (List.mem_append.mp hc).elim (h c) (k c)
theorem okc_sub {a b : Tx} (h : okc b) (k : ∀ c ∈ a, c ∈ b) : okc a := fun c hc => h c (k c hc)

/-- what stays for ever: tuples, locked lists and tuples -/
def Perm : HO → Prop
  | .tup _ => True
  | .frz _ (.lst _) => True
  | .frz _ (.tup _) => True
  | _ => False
def TK (H H' : Hp) : Prop := ∀ a u, H a = some u → Perm u → H' a = some u
theorem TK.refl (H : Hp) : TK H H := fun _ _ h _ => h
theorem TK.trans {H H1 H2 : Hp} (a : TK H H1) (b : TK H1 H2) : TK H H2 := fun c u h p => b c u (a c u h p) p
theorem TK.new {H : Hp} {p : Addr} {o : HO} (h : H p = none) : TK H (upd H p o) := fun a u e _ => by
  rw [upd_ne (ne_of_none e h)]; exact e
theorem TK.put {H : Hp} {p : Addr} {o u : HO} (h : H p = some u) (n : ¬ Perm u) : TK H (upd H p o) := fun a u' e q => by
  have ne : a ≠ p := fun z => by
    subst z; rw [h] at e; cases e; exact n q
  rw [upd_ne ne]; exact e

/-- a list that never changes -/
def SqF (K : PySem.W.Frag) (H : Hp) (a : Addr) (xs : List V) : Prop :=
  (∃ o, H a = some (.frz o (.lst xs))) ∨
    ∃ (o : Obj) (its : Array Value) (n : Nat), K.lookup a = some o ∧ o.cls = .type "list" ∧ o.dict = none ∧ o.data = .seq its n ∧ its.size ≤ sizeLine ∧ Vals xs its.toList
theorem SqF.sq {K : PySem.W.Frag} {H : Hp} {a : Addr} {xs : List V} (h : SqF K H a xs) : SqL K H a xs := by
  rcases h with ⟨o, h⟩ | h
  · exact .inl (.inr ⟨o, h⟩)
  · exact .inr h
theorem SqF.tk {K : PySem.W.Frag} {H H' : Hp} {a : Addr} {xs : List V} (h : SqF K H a xs) (k : TK H H') : SqF K H' a xs := by
  rcases h with ⟨o, h⟩ | h
  · exact .inl ⟨o, k _ _ h trivial⟩
  · exact .inr h
theorem SqT.tk {K : PySem.W.Frag} {H H' : Hp} {a : Addr} {xs : List V} (h : SqT K H a xs) (k : TK H H') : SqT K H' a xs := by
  rcases h with (h | ⟨o, h⟩) | h
  · exact .inl (.inl (k _ _ h trivial))
  · exact .inl (.inr ⟨o, k _ _ h trivial⟩)
  · exact .inr h

mutual
def RD (K : PySem.W.Frag) (H : Hp) : D → V → Prop
  | .non, v => v = .non
  | .bl b, v => v = .bl b
  | .int i, v => v = .int i
  | .str s, v => v = .str ⟨s.toArray⟩ ∧ okc s
  | .tup ds, v => ∃ a xs, v = .ref a ∧ SqT K H a xs ∧ RDs K H ds xs
  | .fl ds, v => ∃ a xs, v = .ref a ∧ SqF K H a xs ∧ RDs K H ds xs
  | .ob a, v => v = .ref a
  | .ty n, v => v = .ty n
  | .any, v => ∃ s : Str, v = .str s
def RDs (K : PySem.W.Frag) (H : Hp) : List D → List V → Prop
  | [], vs => vs = []
  | d :: ds, vs => ∃ x xs, vs = x :: xs ∧ RD K H d x ∧ RDs K H ds xs
end

section
variable {K : PySem.W.Frag} {H H' : Hp}
mutual
theorem RD.tk (k : TK H H') : ∀ {d : D} {v : V}, RD K H d v → RD K H' d v
  | .non, _, h => h
  | .bl _, _, h => h
  | .int _, _, h => h
  | .str _, _, h => h
  | .tup ds, _, h => by
    obtain ⟨a, xs, e, s, r⟩ := h
    exact ⟨a, xs, e, SqT.tk s k, RDs.tk k r⟩
  | .fl ds, _, h => by
    obtain ⟨a, xs, e, s, r⟩ := h
    exact ⟨a, xs, e, SqF.tk s k, RDs.tk k r⟩
  | .ob _, _, h => h
  | .ty _, _, h => h
  | .any, _, h => h
theorem RDs.tk (k : TK H H') : ∀ {ds : List D} {vs : List V}, RDs K H ds vs → RDs K H' ds vs
  | [], _, h => h
  | _ :: _, _, h => by
    obtain ⟨x, xs, e, a, b⟩ := h
    exact ⟨x, xs, e, RD.tk k a, RDs.tk k b⟩
end
theorem RD.nonI : RD K H .non .non := rfl
theorem RD.blI {b : Bool} : RD K H (.bl b) (.bl b) := rfl
theorem RD.intI {i : Int} : RD K H (.int i) (.int i) := rfl
theorem RD.obI {a : Addr} : RD K H (.ob a) (.ref a) := rfl
theorem RD.strI {s : Tx} (h : okc s) : RD K H (.str s) (.str ⟨s.toArray⟩) := ⟨rfl, h⟩
theorem RD.tupI {a : Addr} {xs : List V} {ds : List D} (s : SqT K H a xs) (r : RDs K H ds xs) : RD K H (.tup ds) (.ref a) := ⟨a, xs, rfl, s, r⟩
theorem RDs.oneI {d : D} {v : V} (r : RD K H d v) : RDs K H [d] [v] := ⟨v, [], rfl, r, rfl⟩
theorem RDs.length : ∀ {ds : List D} {vs : List V}, RDs K H ds vs → ds.length = vs.length
  | [], _, h => by cases h; rfl
  | _ :: _, _, h => by
    obtain ⟨x, xs, rfl, _, b⟩ := h
    simp [RDs.length b]
theorem RDs.get : ∀ {ds : List D} {vs : List V} {i : Nat} {d : D}, RDs K H ds vs → ds[i]? = some d → ∃ v, vs[i]? = some v ∧ RD K H d v
  | [], _, _, _, _, e => by simp at e
  | _ :: _, _, 0, _, h, e => by
    obtain ⟨x, xs, rfl, a, _⟩ := h
    simp at e; subst e
    exact ⟨x, rfl, a⟩
  | _ :: _, _, i + 1, _, h, e => by
    obtain ⟨x, xs, rfl, _, b⟩ := h
    obtain ⟨v, e1, r⟩ := RDs.get (i := i) b (by simpa using e)
    exact ⟨v, by simpa using e1, r⟩
theorem RDs.getV : ∀ {ds : List D} {vs : List V} {i : Nat} {v : V}, RDs K H ds vs → vs[i]? = some v → ∃ d, ds[i]? = some d ∧ RD K H d v
  | [], _, _, _, h, e => by cases h; simp at e
  | d :: _, _, 0, _, h, e => by
    obtain ⟨x, xs, rfl, a, _⟩ := h
    simp at e; subst e
    exact ⟨d, rfl, a⟩
  | _ :: _, _, i + 1, _, h, e => by
    obtain ⟨x, xs, rfl, _, b⟩ := h
    obtain ⟨v, e1, r⟩ := RDs.getV (i := i) b (by simpa using e)
    exact ⟨v, by simpa using e1, r⟩
theorem RDs.append : ∀ {ds es : List D} {vs us : List V}, RDs K H ds vs → RDs K H es us → RDs K H (ds ++ es) (vs ++ us)
  | [], _, _, _, h, r => by cases h; exact r
  | _ :: _, _, _, _, h, r => by
    obtain ⟨x, xs, rfl, a, b⟩ := h
    exact ⟨x, xs ++ _, rfl, a, RDs.append b r⟩
theorem RDs.take : ∀ {ds : List D} {vs : List V} (n : Nat), RDs K H ds vs → RDs K H (ds.take n) (vs.take n)
  | _, _, 0, _ => rfl
  | [], _, _ + 1, h => by cases h; rfl
  | _ :: _, _, n + 1, h => by
    obtain ⟨x, xs, rfl, a, b⟩ := h
    exact ⟨x, xs.take n, rfl, a, RDs.take n b⟩
theorem RDs.drop : ∀ {ds : List D} {vs : List V} (n : Nat), RDs K H ds vs → RDs K H (ds.drop n) (vs.drop n)
  | _, _, 0, h => h
  | [], _, _ + 1, h => by cases h; rfl
  | _ :: _, _, n + 1, h => by
    obtain ⟨x, xs, rfl, _, b⟩ := h
    exact RDs.drop n b
theorem RDs.set {d : D} {v : V} (r : RD K H d v) : ∀ {ds : List D} {vs : List V} (i : Nat), RDs K H ds vs → RDs K H (ds.set i d) (vs.set i v)
  | [], _, _, h => by cases h; rfl
  | _ :: _, _, 0, h => by
    obtain ⟨x, xs, rfl, _, b⟩ := h
    exact ⟨v, xs, rfl, r, b⟩
  | _ :: _, _, i + 1, h => by
    obtain ⟨x, xs, rfl, a, b⟩ := h
    exact ⟨x, xs.set i v, rfl, a, RDs.set r i b⟩
theorem RDs.ints : ∀ (ns : List Int), RDs K H (ns.map D.int) (ns.map V.int)
  | [] => rfl
  | n :: ns => ⟨.int n, ns.map V.int, rfl, rfl, RDs.ints ns⟩
theorem RDs.reverse : ∀ {ds : List D} {vs : List V}, RDs K H ds vs → RDs K H ds.reverse vs.reverse
  | [], _, h => by cases h; rfl
  | _ :: _, _, h => by
    obtain ⟨x, xs, rfl, a, b⟩ := h
    rw [List.reverse_cons, List.reverse_cons]
    exact RDs.append (RDs.reverse b) ⟨x, [], rfl, a, rfl⟩
end

/-! ### what changes: lists, dicts, instances -/
inductive MO where
  | lst (xs : List D) | ins (C : Addr) (fs : List (Str × D)) | dic (kvs : List (D × D)) | dit (kvs : List (D × D)) | xd (fs : List (Str × D))
abbrev Mp := Addr → Option MO
def upm (M : Mp) (a : Addr) (o : MO) : Mp := fun b => if b = a then some o else M b
theorem upm_same {M : Mp} {a : Addr} {o : MO} : upm M a o a = some o := by unfold upm; rw [if_pos rfl]
theorem upm_ne {M : Mp} {a b : Addr} {o : MO} (h : b ≠ a) : upm M a o b = M b := by unfold upm; rw [if_neg h]
theorem upm_ne' {M : Mp} {a b : Addr} {o : MO} (h : a ≠ b) : upm M a o b = M b := upm_ne h.symm
theorem upm_upm {M : Mp} {a : Addr} {o u : MO} : upm (upm M a o) a u = upm M a u := by
  funext b; unfold upm; split <;> rfl
theorem upm_none {M : Mp} {a b : Addr} {o : MO} (h : upm M a o b = none) : M b = none ∧ b ≠ a := by
  unfold upm at h; split at h
  · cases h
  · exact ⟨h, by assumption⟩
theorem mne {M : Mp} {a b : Addr} {o : MO} (h : M a = some o) (h' : M b = none) : a ≠ b := by
  intro e; subst e; rw [h] at h'; cases h'
/-- M' has all that M has -/
def Sub (M M' : Mp) : Prop := ∀ a o, M a = some o → M' a = some o
theorem Sub.refl (M : Mp) : Sub M M := fun _ _ h => h
theorem Sub.new {M M' : Mp} {p : Addr} {o : MO} (h : M p = none) (s : Sub M M') : Sub M (upm M' p o) := fun a u e => by
  rw [upm_ne (mne e h)]; exact s a u e
theorem Sub.trans {M M1 M2 : Mp} (a : Sub M M1) (b : Sub M1 M2) : Sub M M2 := fun c u h => b c u (a c u h)
theorem Sub.both {M M' : Mp} {p : Addr} {o : MO} (s : Sub M M') : Sub (upm M p o) (upm M' p o) := fun a u e => by
  by_cases h : a = p
  · subst h; rw [upm_same] at e ⊢; exact e
  · rw [upm_ne h] at e ⊢; exact s a u e

def Fs (K : PySem.W.Frag) (H : Hp) : List (Str × D) → List (Str × V) → Prop
  | [], gs => gs = []
  | (n, d) :: fs, gs => ∃ v r, gs = (n, v) :: r ∧ RD K H d v ∧ Fs K H fs r
def keyD : D → Option Key
  | .int i => some (.inl i)
  | .str s => some (.inr ⟨s.toArray⟩)
  | _ => none
def keysD : List D → Option (List Key)
  | [] => some []
  | d :: ds => match keyD d, keysD ds with
    | some k, some ks => some (k :: ks)
    | _, _ => none
def keyT : D → Option (List Key)
  | .tup ds => keysD ds
  | _ => none
def Kvs {κ : Type} (K : PySem.W.Frag) (H : Hp) (kf : D → Option κ) : List (D × D) → List (κ × V) → Prop
  | [], gs => gs = []
  | (k, d) :: fs, gs => ∃ n v r, gs = (n, v) :: r ∧ kf k = some n ∧ RD K H d v ∧ Kvs K H kf fs r
def RO (K : PySem.W.Frag) (H : Hp) (a : Addr) : MO → Prop
  | .lst ds => ∃ xs, H a = some (.lst xs) ∧ RDs K H ds xs
  | .ins C fs => ∃ dx gs, H a = some (.ins C dx gs) ∧ Fs K H fs gs
  | .dic kvs => ∃ gs, H a = some (.dK gs) ∧ Kvs K H keyD kvs gs
  | .dit kvs => ∃ gs, H a = some (.dT gs) ∧ Kvs K H keyT kvs gs
  | .xd fs => ∃ gs, H a = some (.xd gs) ∧ Fs K H fs gs
def RM (K : PySem.W.Frag) (H : Hp) (M : Mp) : Prop := ∀ a o, M a = some o → RO K H a o
section
variable {K : PySem.W.Frag} {H H' : Hp}
theorem Fs.tk (k : TK H H') : ∀ {fs : List (Str × D)} {gs : List (Str × V)}, Fs K H fs gs → Fs K H' fs gs
  | [], _, h => h
  | (n, d) :: fs, _, h => by
    obtain ⟨v, r, e, a, b⟩ := h
    exact ⟨v, r, e, RD.tk k a, Fs.tk k b⟩
theorem Kvs.tk {κ : Type} {kf : D → Option κ} (k : TK H H') : ∀ {fs : List (D × D)} {gs : List (κ × V)}, Kvs K H kf fs gs → Kvs K H' kf fs gs
  | [], _, h => h
  | (n, d) :: fs, _, h => by
    obtain ⟨m, v, r, e, q, a, b⟩ := h
    exact ⟨m, v, r, e, q, RD.tk k a, Kvs.tk k b⟩
theorem Fs.length : ∀ {fs : List (Str × D)} {gs : List (Str × V)}, Fs K H fs gs → fs.length = gs.length
  | [], _, h => by cases h; rfl
  | _ :: _, _, h => by
    obtain ⟨v, r, rfl, a, b⟩ := h
    simp [Fs.length b]
theorem Fs.lookup {f : Str} : ∀ {fs : List (Str × D)} {gs : List (Str × V)} {d : D}, Fs K H fs gs → fs.lookup f = some d → ∃ v, gs.lookup f = some v ∧ RD K H d v
  | [], _, _, _, e => by simp at e
  | (n, d) :: fs, _, _, h, e => by
    obtain ⟨v, r, rfl, a, b⟩ := h
    rw [List.lookup_cons] at e ⊢
    cases hq : (f == n) with
    | true => rw [hq] at e; cases e; exact ⟨v, rfl, a⟩
    | false => rw [hq] at e; exact Fs.lookup b e
theorem Fs.lookup_none {f : Str} : ∀ {fs : List (Str × D)} {gs : List (Str × V)}, Fs K H fs gs → fs.lookup f = none → gs.lookup f = none
  | [], _, h, e => by cases h; rfl
  | (n, d) :: fs, _, h, e => by
    obtain ⟨v, r, rfl, a, b⟩ := h
    rw [List.lookup_cons] at e ⊢
    cases hq : (f == n) with
    | true => rw [hq] at e; cases e
    | false => rw [hq] at e; exact Fs.lookup_none b e
def putD (f : Str) (d : D) : List (Str × D) → List (Str × D)
  | [] => [(f, d)]
  | (n, e) :: r => if n = f then (n, d) :: r else (n, e) :: putD f d r
theorem Fs.put {f : Str} {d : D} {v : V} (rv : RD K H d v) : ∀ {fs : List (Str × D)} {gs : List (Str × V)}, Fs K H fs gs → Fs K H (putD f d fs) (putF f v gs)
  | [], _, h => by cases h; exact ⟨v, [], rfl, rv, rfl⟩
  | (n, e) :: fs, _, h => by
    obtain ⟨u, r, rfl, a, b⟩ := h
    unfold putD putF
    by_cases q : n = f
    · rw [if_pos q, if_pos q]; exact ⟨v, r, rfl, rv, b⟩
    · rw [if_neg q, if_neg q]; exact ⟨u, _, rfl, a, Fs.put rv b⟩
theorem RO.lstI {a : Addr} {xs : List V} {ds : List D} (s : H a = Option.some (.lst xs)) (r : RDs K H ds xs) : RO K H a (.lst ds) := ⟨xs, s, r⟩
theorem RO.insI {a C dx : Addr} {gs : List (Str × V)} {fs : List (Str × D)} (s : H a = Option.some (.ins C dx gs)) (r : Fs K H fs gs) : RO K H a (.ins C fs) := ⟨dx, gs, s, r⟩
theorem RO.tk {a : Addr} {o : MO} (k : TK H H') (s : H' a = H a) (h : RO K H a o) : RO K H' a o := by
  cases o with
  | lst ds => obtain ⟨xs, e, r⟩ := h; exact ⟨xs, s.trans e, RDs.tk k r⟩
  | ins C fs => obtain ⟨dx, gs, e, r⟩ := h; exact ⟨dx, gs, s.trans e, Fs.tk k r⟩
  | dic kvs => obtain ⟨gs, e, r⟩ := h; exact ⟨gs, s.trans e, Kvs.tk k r⟩
  | dit kvs => obtain ⟨gs, e, r⟩ := h; exact ⟨gs, s.trans e, Kvs.tk k r⟩
  | xd fs => obtain ⟨gs, e, r⟩ := h; exact ⟨gs, s.trans e, Fs.tk k r⟩
theorem RO.some {a : Addr} {o : MO} (h : RO K H a o) : ∃ u, H a = Option.some u ∧ ¬ Perm u := by
  cases o with
  | lst ds => obtain ⟨xs, e, r⟩ := h; exact ⟨_, e, fun z => z⟩
  | ins C fs => obtain ⟨dx, gs, e, r⟩ := h; exact ⟨_, e, fun z => z⟩
  | dic kvs => obtain ⟨gs, e, r⟩ := h; exact ⟨_, e, fun z => z⟩
  | dit kvs => obtain ⟨gs, e, r⟩ := h; exact ⟨_, e, fun z => z⟩
  | xd fs => obtain ⟨gs, e, r⟩ := h; exact ⟨_, e, fun z => z⟩
theorem RM.none {M : Mp} (h : RM K H M) {p : Addr} (n : H p = none) : M p = none := by
  cases q : M p with
  | none => rfl
  | some o =>
    obtain ⟨u, e, _⟩ := (h p o q).some
    rw [n] at e; cases e
theorem RM.sub {M M' : Mp} (h : RM K H M') (s : Sub M M') : RM K H M := fun a o e => h a o (s a o e)
/-- a new object that M does not know -/
theorem RM.skip {M : Mp} {p : Addr} {o : HO} (h : RM K H M) (n : H p = Option.none) : RM K (upd H p o) M := fun a u e =>
  (h a u e).tk (TK.new n) (upd_ne (fun z => by subst z; rw [h.none n] at e; cases e))
theorem RM.new {M : Mp} {p : Addr} {o : HO} {m : MO} (h : RM K H M) (n : H p = Option.none) (r : RO K (upd H p o) p m) : RM K (upd H p o) (upm M p m) := fun a u e => by
  by_cases q : a = p
  · subst q; rw [upm_same] at e; cases e; exact r
  · rw [upm_ne q] at e
    exact (h a u e).tk (TK.new n) (upd_ne q)
theorem RM.put {M : Mp} {p : Addr} {o u : HO} {m : MO} (h : RM K H M) (e0 : H p = some u) (n : ¬ Perm u) (r : RO K (upd H p o) p m) : RM K (upd H p o) (upm M p m) := fun a u e => by
  by_cases q : a = p
  · subst q; rw [upm_same] at e; cases e; exact r
  · rw [upm_ne q] at e
    exact (h a u e).tk (TK.put e0 n) (upd_ne q)
end

/-! ### slots -/
abbrev Env := List (Option D)
def RS (K : PySem.W.Frag) (H : Hp) (δ : Env) (σ : L2.St) : Prop := δ.length = σ.length ∧ ∀ (i : Nat) (d : D), δ[i]? = some (some d) → ∃ v, σ[i]? = some (some v) ∧ RD K H d v
section
variable {K : PySem.W.Frag} {H H' : Hp} {δ : Env} {σ : L2.St}
theorem RS.tk (h : RS K H δ σ) (k : TK H H') : RS K H' δ σ := ⟨h.1, fun i d e => let ⟨v, q, r⟩ := h.2 i d e; ⟨v, q, RD.tk k r⟩⟩
theorem RS.set {d : D} {v : V} (h : RS K H δ σ) (i : Nat) (r : RD K H d v) : RS K H (δ.set i (some d)) (σ.set i (some v)) := by
  refine ⟨by simp [h.1], fun j e q => ?_⟩
  by_cases hj : j = i
  · subst hj
    by_cases hl : j < δ.length
    · rw [List.getElem?_set_self hl] at q
      cases q
      exact ⟨v, by rw [List.getElem?_set_self (by rw [← h.1]; exact hl)], r⟩
    · rw [List.getElem?_eq_none_iff.mpr (by simp; omega)] at q; cases q
  · rw [List.getElem?_set_ne (Ne.symm hj)] at q
    rw [List.getElem?_set_ne (Ne.symm hj)]
    exact h.2 j e q
end

/-! ### exceptions as data -/
structure XD where
  cls : Addr
  fs : List (Str × D)
def XR (K : PySem.W.Frag) (H : Hp) (x : XD) (c : Value) (od : Option Addr) : Prop :=
  c = .ref x.cls ∧ ((x.fs = [] ∧ od = none) ∨ ∃ d gs, x.fs ≠ [] ∧ od = some d ∧ H d = some (.xd gs) ∧ Fs K H x.fs gs)

abbrev KD := D → Mp → Prop
abbrev XKD := XD → Mp → Prop
abbrev DE := Env → Mp → KD → XKD → Prop
abbrev DT := Env → Mp → (Bool → Mp → Prop) → XKD → Prop
abbrev DA := Env → Mp → (List D → Mp → Prop) → XKD → Prop
structure DEnds where
  nx : Env → Mp → Prop
  rt : KD
  bk : Env → Mp → Prop := fun _ _ => False
  ct : Env → Mp → Prop := fun _ _ => False
  xx : XD → Env → Mp → Prop := fun _ _ _ => False
abbrev DS := DEnds → Env → Mp → Prop

/-- where a raised exception is wished for -/
def Lf (K : PySem.W.Frag) (H0 : Hp) (W : WX) (XX : XD → Env → Mp → Prop) : Prop :=
  ∀ (x : XD) (c : Value) (od : Option Addr) (σ : L2.St) (H : Hp) (δ : Env) (M : Mp), TK H0 H → XR K H x c od → RS K H δ σ → RM K H M → XX x δ M → W c od σ H
structure Pre (K : PySem.W.Frag) (W : WX) (H0 : Hp) (σ : L2.St) (H : Hp) (δ : Env) (M : Mp) (XX : XD → Env → Mp → Prop) : Prop where
  tk : TK H0 H
  lf : Lf K H0 W XX
  rs : RS K H δ σ
  rm : RM K H M
theorem Pre.step {K : PySem.W.Frag} {W : WX} {H0 H H1 : Hp} {σ : L2.St} {δ : Env} {M M1 : Mp} {XX : XD → Env → Mp → Prop} (p : Pre K W H0 σ H δ M XX) (k : TK H H1) (r : RM K H1 M1) : Pre K W H0 σ H1 δ M1 XX :=
  ⟨p.tk.trans k, p.lf, p.rs.tk k, r⟩

def cE (K : PySem.W.Frag) (W : WX) (w : DE) : TE := fun σ H Q => ∃ H0 δ M Q' XX, Pre K W H0 σ H δ M XX ∧ w δ M Q' (fun x M => XX x δ M) ∧
  ∀ v H' d M', TK H H' → RD K H' d v → RM K H' M' → Q' d M' → Q v H'
def cT (K : PySem.W.Frag) (W : WX) (w : DT) : TT := fun σ H Q => ∃ H0 δ M Q' XX, Pre K W H0 σ H δ M XX ∧ w δ M Q' (fun x M => XX x δ M) ∧
  ∀ b H' M', TK H H' → RM K H' M' → Q' b M' → Q b H'
def cA (K : PySem.W.Frag) (W : WX) (w : DA) : TA := fun σ H Q => ∃ H0 δ M Q' XX, Pre K W H0 σ H δ M XX ∧ w δ M Q' (fun x M => XX x δ M) ∧
  ∀ vs H' ds M', TK H H' → RDs K H' ds vs → RM K H' M' → Q' ds M' → Q vs H'
/-- what D' wants is what D wants -/
structure LE (K : PySem.W.Frag) (H : Hp) (D' : DEnds) (D : Ends) : Prop where
  nx : ∀ σ H' δ M, TK H H' → RS K H' δ σ → RM K H' M → D'.nx δ M → D.nx σ H'
  rt : ∀ v H' d M, TK H H' → RD K H' d v → RM K H' M → D'.rt d M → D.rt v H'
  bk : ∀ σ H' δ M, TK H H' → RS K H' δ σ → RM K H' M → D'.bk δ M → D.bk σ H'
  ct : ∀ σ H' δ M, TK H H' → RS K H' δ σ → RM K H' M → D'.ct δ M → D.ct σ H'
theorem LE.tk {K : PySem.W.Frag} {H H1 : Hp} {D' : DEnds} {D : Ends} (l : LE K H D' D) (k : TK H H1) : LE K H1 D' D :=
  ⟨fun σ H' δ M k' => l.nx σ H' δ M (k.trans k'), fun v H' d M k' => l.rt v H' d M (k.trans k'), fun σ H' δ M k' => l.bk σ H' δ M (k.trans k'), fun σ H' δ M k' => l.ct σ H' δ M (k.trans k')⟩
def cS (K : PySem.W.Frag) (W : WX) (w : DS) : TS := fun D σ H => ∃ H0 δ M D', Pre K W H0 σ H δ M D'.xx ∧ w D' δ M ∧ LE K H D' D

abbrev QE (X : Cx) (W : WX) (e : Expr) (w : DE) : Prop := PE X e (cE X.K W w)
abbrev QT (X : Cx) (W : WX) (e : Expr) (w : DT) : Prop := PT X e (cT X.K W w)
abbrev QW (X : Cx) (W : WX) (e : Expr) (w : DT) : Prop := PW X e (cT X.K W w)
abbrev QA (X : Cx) (W : WX) (es : List Expr) (w : DA) : Prop := PA X es (cA X.K W w)
abbrev QS (X : Cx) (W : WX) (st : Stmt) (w : DS) : Prop := PS X st (cS X.K W w)
abbrev QSs (X : Cx) (W : WX) (st : List Stmt) (w : DS) : Prop := PSs X st (cS X.K W w)

/-! weaker readings -/
theorem pe_weak {X : Cx} {e : Expr} {t t' : TE} (h : PE X e t) (k : ∀ σ H Q, t' σ H Q → t σ H Q) : PE X e t' := ⟨fun pins s σ H Q I q => h.run pins s σ H Q I (k σ H Q q)⟩
theorem pt_weak {X : Cx} {e : Expr} {t t' : TT} (h : PT X e t) (k : ∀ σ H Q, t' σ H Q → t σ H Q) : PT X e t' := ⟨fun pins s σ H Q I q => h.run pins s σ H Q I (k σ H Q q)⟩
theorem pw_weak {X : Cx} {e : Expr} {t t' : TT} (h : PW X e t) (k : ∀ σ H Q, t' σ H Q → t σ H Q) : PW X e t' := ⟨fun wh pins s σ H Q I q => h.run wh pins s σ H Q I (k σ H Q q)⟩
theorem pa_weak {X : Cx} {e : List Expr} {t t' : TA} (h : PA X e t) (k : ∀ σ H Q, t' σ H Q → t σ H Q) : PA X e t' := ⟨fun pos pins s σ H Q I q => h.run pos pins s σ H Q I (k σ H Q q)⟩
theorem ps_weak {X : Cx} {e : Stmt} {t t' : TS} (h : PS X e t) (k : ∀ D σ H, t' D σ H → t D σ H) : PS X e t' := ⟨fun pins s σ H D I q => h.run pins s σ H D I (k D σ H q)⟩
theorem pss_weak {X : Cx} {e : List Stmt} {t t' : TS} (h : PSs X e t) (k : ∀ D σ H, t' D σ H → t D σ H) : PSs X e t' := ⟨fun pins s σ H D I q => h.run pins s σ H D I (k D σ H q)⟩
end QL

namespace QL
open PySem PySem.Spec PyProof.Rows L2
section
variable {X : Cx} {W : WX} {a b c e : Expr} {wa wb wc : DE} {pos : Pos}

/-! ### names, constants -/
def onS (o : Option (Option D)) (k : D → Prop) : Prop := match o with
  | some (some d) => k d
  | _ => False
def wVar (i : Nat) : DE := fun δ M Q _ => onS δ[i]? fun d => Q d M
theorem onS_ex {o : Option (Option D)} {k : D → Prop} (h : onS o k) : ∃ d, o = some (some d) ∧ k d := by
  unfold onS at h
  split at h
  · exact ⟨_, rfl, h⟩
  · exact h.elim
theorem qe_var (i : Nat) {x : Str} (hN : X.N[i]? = some x := by rfl) (hv : Vis X.env.scope x := by first | exact Or.inl rfl | exact Or.inr (Or.inl rfl) | exact Or.inr (Or.inr rfl)) (hd : (x == ("__debug__" : Str)) = false := by decide +kernel)
    (hcd : (x == ("__classdict__" : Str)) = false := by decide +kernel) : QE X W (.Name x pos) (wVar i) :=
  pe_weak (pe_var hN hv hd hcd) fun σ H Q ⟨H0, δ, M, Q', XX, p, w, k⟩ => by
    obtain ⟨d, e, q⟩ := onS_ex w
    obtain ⟨v, ev, r⟩ := p.rs.2 i d e
    exact ⟨v, ev, k v H d M (TK.refl H) r p.rm q⟩
def wC (d : D) : DE := fun _ M Q _ => Q d M
theorem qe_c {d : D} {v : V} (h : PE X e (tC v)) (r : ∀ H, RD X.K H d v) : QE X W e (wC d) :=
  pe_weak h fun σ H Q ⟨H0, δ, M, Q', XX, p, w, k⟩ => k v H d M (TK.refl H) (r H) p.rm w
theorem qe_int {i : Int} {j : Nat} : QE X W (.Constant (.int i) j pos) (wC (.int i)) := qe_c pe_int fun _ => rfl
theorem qe_bl {i : Bool} {j : Nat} : QE X W (.Constant (.bool i) j pos) (wC (.bl i)) := qe_c pe_bl fun _ => rfl
theorem qe_non {j : Nat} : QE X W (.Constant .none j pos) (wC .non) := qe_c pe_non fun _ => rfl
theorem str_of (s : String) : Str.ofString s = ⟨(tx s).toArray⟩ := Str.ofString_eq_toList s
theorem qe_str {s : String} {j : Nat} : QE X W (.Constant (.str (Str.ofString s)) j pos) (wC (.str (tx s))) :=
  qe_c pe_str fun _ => ⟨by rw [str_of], okc_tx s⟩
theorem qe_glob {x : Str} {v : V} {u : Value} {d : D} (rd : ∀ H, RD X.K H d v) (hg : Gl X x) (hm : X.mg x = some u) (r : RelV v u) (hd : (x == ("__debug__" : Str)) = false := by decide +kernel) : QE X W (.Name x pos) (wC d) := qe_c (pe_glob hg hm r hd) rd

/-! ### operations on two values -/
abbrev D2 := D → D → Mp → KD → Prop
def O2 (K : PySem.W.Frag) (r : R2) (rd : D2) : Prop := ∀ (x y : V) (d e : D) (H : Hp) (M : Mp) (Q : VK) (Q' : KD), RD K H d x → RD K H e y → RM K H M → rd d e M Q' →
  (∀ v H' d' M', TK H H' → RD K H' d' v → RM K H' M' → Q' d' M' → Q v H') → r x y H Q
def wOp (rd : D2) (wa wb : DE) : DE := fun δ M Q E => wa δ M (fun d M1 => wb δ M1 (fun e M2 => rd d e M2 Q) E) E
/-- the two operands in a row -/
theorem two {K : PySem.W.Frag} {σ : L2.St} {H : Hp} {Q : VK} {r : R2} {rd : D2} (o : O2 K r rd) (h : cE K W (wOp rd wa wb) σ H Q) : tOp r (cE K W wa) (cE K W wb) σ H Q := by
  obtain ⟨H0, δ, M, Q', XX, p, w, k⟩ := h
  refine ⟨H0, δ, M, _, XX, p, w, fun x H1 d M1 k1 r1 m1 w1 => ⟨H0, δ, M1, _, XX, p.step k1 m1, w1, fun y H2 e M2 k2 r2 m2 w2 => ?_⟩⟩
  exact o x y d e H2 M2 Q Q' (RD.tk k2 r1) r2 m2 w2 fun v H' d' M' k3 => k v H' d' M' (k1.trans (k2.trans k3))
theorem qe_op {op : Operator} {r : R2} {rd : D2} (ho : OpR X (binaryOp op) r) (o : O2 X.K r rd) (ha : QE X W a wa) (hb : QE X W b wb) : QE X W (.BinOp a op b pos) (wOp rd wa wb) :=
  pe_weak (pe_op ho ha hb) fun _ _ _ h => two o h
theorem qe_cmp {op : CmpOp} {r : R2} {rd : D2} (ho : OpR X (compareOp op) r) (o : O2 X.K r rd) (ha : QE X W a wa) (hb : QE X W b wb) (hm : behindInMarks op b = false) : QE X W (.Compare a [op] [b] pos) (wOp rd wa wb) :=
  pe_weak (pe_cmpR ho ha hb hm) fun _ _ _ h => two o h
/-- a value that is a bool, as a test -/
def wTst (w : DE) : DT := fun δ M Q E => w δ M (fun d M' => ∃ k, d = .bl k ∧ Q k M') E
theorem qt_cmp {op : CmpOp} {r : R2} {rd : D2} (ho : OpR X (compareOp op) r) (o : O2 X.K r rd) (ha : QE X W a wa) (hb : QE X W b wb) (hm : behindInMarks op b = false) : QT X W (.Compare a [op] [b] pos) (wTst (wOp rd wa wb)) :=
  pt_weak (pt_cmpR ho ha hb hm) fun σ H Q ⟨H0, δ, M, Q', XX, p, w, k⟩ => two o ⟨H0, δ, M, _, XX, p, w, fun v H' d M' k1 r1 m1 w1 => by
    obtain ⟨t, rfl, q⟩ := w1
    exact ⟨t, r1, k t H' M' k1 m1 q⟩⟩
/-- a < b < c -/
def wChain (rd rd' : D2) (wa wb wc : DE) : DE := fun δ M Q E => wa δ M (fun d M1 => wb δ M1 (fun e M2 => rd d e M2 fun z M3 => ∃ k, z = .bl k ∧ (if k = true then wc δ M3 (fun f M4 => rd' e f M4 Q) E else Q (.bl false) M3)) E) E
theorem three {K : PySem.W.Frag} {σ : L2.St} {H : Hp} {Q : VK} {r r' : R2} {rd rd' : D2} (o : O2 K r rd) (o' : O2 K r' rd') (h : cE K W (wChain rd rd' wa wb wc) σ H Q) : tChain r r' (cE K W wa) (cE K W wb) (cE K W wc) σ H Q := by
  obtain ⟨H0, δ, M, Q', XX, p, w, k⟩ := h
  refine ⟨H0, δ, M, _, XX, p, w, fun x H1 d M1 k1 r1 m1 w1 => ⟨H0, δ, M1, _, XX, p.step k1 m1, w1, fun y H2 e M2 k2 r2 m2 w2 => ?_⟩⟩
  refine o x y d e H2 M2 _ _ (RD.tk k2 r1) r2 m2 w2 fun v H3 d' M3 k3 r3 m3 w3 => ?_
  obtain ⟨t, rfl, w3⟩ := w3
  obtain rfl : v = .bl t := r3
  refine ⟨t, rfl, ?_⟩
  cases t with
  | false =>
    rw [if_neg Bool.false_ne_true] at w3 ⊢
    exact k _ _ _ _ (k1.trans (k2.trans k3)) RD.blI m3 w3
  | true =>
    rw [if_pos rfl] at w3 ⊢
    exact ⟨H0, δ, M3, _, XX, (p.step k1 m1).step (k2.trans k3) m3, w3, fun z H4 f M4 k4 r4 m4 w4 => o' y z e f H4 M4 Q Q' (RD.tk (k3.trans k4) r2) r4 m4 w4 fun v H' d' M' k5 => k v H' d' M' (k1.trans (k2.trans (k3.trans (k4.trans k5))))⟩
theorem qe_chain {op op' : CmpOp} {r r' : R2} {rd rd' : D2} (ho : OpR X (compareOp op) r) (o : O2 X.K r rd) (ho' : OpR X (compareOp op') r') (o' : O2 X.K r' rd') (ha : QE X W a wa) (hb : QE X W b wb) (hc : QE X W c wc)
    (hm : lastMarks [op, op'] [b, c] = false := by with_unfolding_all rfl) : QE X W (.Compare a [op, op'] [b, c] pos) (wChain rd rd' wa wb wc) :=
  pe_weak (pe_chain ho ho' ha hb hc hm) fun _ _ _ h => three o o' h
theorem qt_chain {op op' : CmpOp} {r r' : R2} {rd rd' : D2} (ho : OpR X (compareOp op) r) (o : O2 X.K r rd) (ho' : OpR X (compareOp op') r') (o' : O2 X.K r' rd') (ha : QE X W a wa) (hb : QE X W b wb) (hc : QE X W c wc)
    (hm : lastMarks [op, op'] [b, c] = false := by with_unfolding_all rfl) : QT X W (.Compare a [op, op'] [b, c] pos) (wTst (wChain rd rd' wa wb wc)) :=
  pt_weak (pt_chain ho ho' ha hb hc hm) fun σ H Q ⟨H0, δ, M, Q', XX, p, w, k⟩ => three o o' ⟨H0, δ, M, _, XX, p, w, fun v H' d M' k1 r1 m1 w1 => by
    obtain ⟨t, rfl, q⟩ := w1
    exact ⟨t, r1, k t H' M' k1 m1 q⟩⟩

/-! ### + - * // % ** -/
def onL (M : Mp) (a : Addr) (k : List D → Prop) : Prop := ∃ xs, M a = some (.lst xs) ∧ k xs
theorem onL_of {M : Mp} {a : Addr} {xs : List D} {k : List D → Prop} (h : M a = some (.lst xs)) : onL M a k = k xs := by
  apply propext
  refine ⟨fun ⟨ys, e, q⟩ => ?_, fun q => ⟨xs, h, q⟩⟩
  rw [h] at e; cases e; exact q
theorem onL_same {M : Mp} {a : Addr} {xs : List D} {k : List D → Prop} : onL (upm M a (.lst xs)) a k = k xs := onL_of upm_same
def addD : D2 := fun d e M Q => match d, e with
  | .int i, .int j => Q (.int (i + j)) M
  | .str x, .str y => x.length + y.length ≤ sizeLine ∧ Q (.str (x ++ y)) M
  | .tup xs, .tup ys => xs.length + ys.length ≤ sizeLine ∧ Q (.tup (xs ++ ys)) M
  | .ob a, .ob b => onL M a fun xs => onL M b fun ys => xs.length + ys.length ≤ sizeLine ∧ ∀ p, M p = none → Q (.ob p) (upm M p (.lst (xs ++ ys)))
  | _, _ => False
theorem str_len {x : Tx} : Str.length ⟨x.toArray⟩ = x.length := by simp [Str.length]
theorem str_app {x y : Tx} : (⟨x.toArray⟩ : Str) ++ (⟨y.toArray⟩ : Str) = ⟨(x ++ y).toArray⟩ := by
  show Str.append _ _ = _
  simp [Str.append]
def rAddAll (K : PySem.W.Frag) : R2 := fun x y H Q => rI0 (fun i j => .int (i + j)) x y H Q ∨ (∃ i j, x = .str i ∧ y = .str j ∧ i.length + j.length ≤ sizeLine ∧ Q (.str (i ++ j)) H) ∨ rCatA K x y H Q ∨ rCat x y H Q
theorem op_addAll : OpR X (binaryOp .Add) (rAddAll X.K) := op_add.or (op_add_str.or (op_catA.or op_cat))
theorem o2_add {K : PySem.W.Frag} : O2 K (rAddAll K) addD := by
  intro x y d e H M Q Q' r1 r2 m w k
  unfold addD at w
  split at w
  · cases r1; cases r2
    exact .inl ⟨_, _, rfl, rfl, k _ H _ M (TK.refl H) RD.intI m w⟩
  · obtain ⟨rfl, o1⟩ := r1
    obtain ⟨rfl, o2⟩ := r2
    refine .inr (.inl ⟨_, _, rfl, rfl, ?_, k _ H _ M (TK.refl H) (by rw [str_app]; exact RD.strI (okc_append o1 o2)) m w.2⟩)
    rw [str_len, str_len]; exact w.1
  · obtain ⟨a, xs, rfl, s1, t1⟩ := r1
    obtain ⟨b, ys, rfl, s2, t2⟩ := r2
    have l1 := t1.length
    have l2 := t2.length
    have tt := RDs.append t1 t2
    refine .inr (.inr (.inl ⟨a, b, xs, ys, rfl, rfl, s1, s2, by omega, fun z => ?_, fun z z2 => ?_, fun _ _ p hp => ?_⟩))
    · subst z
      exact k _ H _ M (TK.refl H) (RD.tupI s2 tt) m w.2
    · subst z2
      rw [List.append_nil] at tt
      exact k _ H _ M (TK.refl H) (RD.tupI s1 tt) m w.2
    · exact k _ _ _ M (TK.new hp) (RD.tupI (SqT.of upd_same) (RDs.tk (TK.new hp) tt)) (m.skip hp) w.2
  · cases r1; cases r2
    obtain ⟨xs, e1, ys, e2, hl, w⟩ := w
    obtain ⟨us, h1, t1⟩ := m _ _ e1
    obtain ⟨vs, h2, t2⟩ := m _ _ e2
    have l1 := t1.length
    have l2 := t2.length
    refine .inr (.inr (.inr ⟨_, _, us, vs, rfl, rfl, h1, h2, by omega, fun p hp => ?_⟩))
    exact k _ _ _ _ (TK.new hp) RD.obI (m.new hp (RO.lstI upd_same (RDs.tk (TK.new hp) (RDs.append t1 t2)))) (w p (m.none hp))
  · exact w.elim
theorem qe_add (ha : QE X W a wa) (hb : QE X W b wb) : QE X W (.BinOp a .Add b pos) (wOp addD wa wb) := qe_op op_addAll o2_add ha hb
/-- on two ints -/
def intD (C : Int → Int → Prop) (f : Int → Int → D) : D2 := fun d e M Q => match d, e with
  | .int i, .int j => C i j ∧ Q (f i j) M
  | _, _ => False
def int0D (f : Int → Int → D) : D2 := fun d e M Q => match d, e with
  | .int i, .int j => Q (f i j) M
  | _, _ => False
theorem o2_int {K : PySem.W.Frag} {C : Int → Int → Prop} {f : Int → Int → D} {g : Int → Int → V} (hf : ∀ i j H, RD K H (f i j) (g i j)) : O2 K (rI C g) (intD C f) := by
  intro x y d e H M Q Q' r1 r2 m w k
  unfold intD at w
  split at w
  · cases r1; cases r2
    exact ⟨_, _, rfl, rfl, w.1, k _ H _ M (TK.refl H) (hf _ _ H) m w.2⟩
  · exact w.elim
theorem o2_int0 {K : PySem.W.Frag} {f : Int → Int → D} {g : Int → Int → V} (hf : ∀ i j H, RD K H (f i j) (g i j)) : O2 K (rI0 g) (int0D f) := by
  intro x y d e H M Q Q' r1 r2 m w k
  unfold int0D at w
  split at w
  · cases r1; cases r2
    exact ⟨_, _, rfl, rfl, k _ H _ M (TK.refl H) (hf _ _ H) m w⟩
  · exact w.elim
abbrev subD : D2 := int0D fun i j => .int (i - j)
abbrev divD : D2 := intD CDiv fun i j => .int (i / j)
abbrev modD : D2 := intD (fun _ j => 0 < j) fun i j => .int (i % j)
abbrev powD : D2 := intD CPow fun i j => .int (i ^ j.toNat)
theorem qe_sub (ha : QE X W a wa) (hb : QE X W b wb) : QE X W (.BinOp a .Sub b pos) (wOp subD wa wb) := qe_op op_sub (o2_int0 fun _ _ _ => rfl) ha hb
theorem qe_div (ha : QE X W a wa) (hb : QE X W b wb) : QE X W (.BinOp a .FloorDiv b pos) (wOp divD wa wb) := qe_op op_fdiv (o2_int fun _ _ _ => rfl) ha hb
theorem qe_mod (ha : QE X W a wa) (hb : QE X W b wb) : QE X W (.BinOp a .Mod b pos) (wOp modD wa wb) := qe_op op_mod (o2_int fun _ _ _ => rfl) ha hb
theorem qe_pow (ha : QE X W a wa) (hb : QE X W b wb) : QE X W (.BinOp a .Pow b pos) (wOp powD wa wb) := qe_op op_pow (o2_int fun _ _ _ => rfl) ha hb
abbrev ltD : D2 := int0D fun i j => .bl (decide (i < j))
abbrev leD : D2 := int0D fun i j => .bl (decide (i ≤ j))
abbrev gtD : D2 := int0D fun i j => .bl (decide (j < i))
abbrev geD : D2 := int0D fun i j => .bl (decide (j ≤ i))
theorem o2_lt {K : PySem.W.Frag} : O2 K (rI0 fun i j => .bl (decide (i < j))) ltD := o2_int0 fun _ _ _ => rfl
theorem o2_le {K : PySem.W.Frag} : O2 K (rI0 fun i j => .bl (decide (i ≤ j))) leD := o2_int0 fun _ _ _ => rfl
theorem o2_gt {K : PySem.W.Frag} : O2 K (rI0 fun i j => .bl (decide (j < i))) gtD := o2_int0 fun _ _ _ => rfl
theorem o2_ge {K : PySem.W.Frag} : O2 K (rI0 fun i j => .bl (decide (j ≤ i))) geD := o2_int0 fun _ _ _ => rfl
end

/-! ### == of data -/
def toP : D → PyData
  | .non => .none
  | .bl b => .bool b
  | .int i => .int i
  | .str s => .str ⟨s.toArray⟩
  | .tup xs => .tuple (toPs xs)
  | .fl xs => .list (toPs xs)
  | .ob _ => .none
  | .ty _ => .none
  | .any => .none
where toPs : List D → List PyData
  | [] => []
  | x :: xs => toP x :: toPs xs
/-- data without objects, at most n deep -/
def okN : Nat → D → Bool
  | _, .ob _ => false
  | _, .ty _ => false
  | _, .any => false
  | 0, .tup _ => false
  | 0, .fl _ => false
  | n + 1, .tup xs => okNs n xs
  | n + 1, .fl xs => okNs n xs
  | _, _ => true
where okNs (n : Nat) : List D → Bool
  | [] => true
  | x :: xs => okN n x && okNs n xs
end QL

namespace QL
open PySem PySem.Spec PyProof.Rows L2

/-! ### == -/
section
variable {K : PySem.W.Frag} {H : Hp}
mutual
theorem dp_of : ∀ {n : Nat} {d : D} {v : V}, okN n d = true → RD K H d v → Dp K H v (toP d)
  | _, .non, _, _, r => by cases r; exact .non
  | _, .bl b, _, _, r => by cases r; exact .bl b
  | _, .int i, _, _, r => by cases r; exact .int i
  | _, .str s, _, _, r => by obtain ⟨rfl, _⟩ := r; exact .str _
  | n, .tup ds, _, h, r => by
    obtain ⟨a, xs, rfl, s, t⟩ := r
    cases n with
    | zero => exact absurd h (by simp [okN])
    | succ n => exact .tup s (dps_of (n := n) (by simpa [okN] using h) t)
  | n, .fl ds, _, h, r => by
    obtain ⟨a, xs, rfl, s, t⟩ := r
    cases n with
    | zero => exact absurd h (by simp [okN])
    | succ n => exact .lst s.sq (dps_of (n := n) (by simpa [okN] using h) t)
  | _, .ob _, _, h, _ => by simp [okN] at h
  | _, .ty _, _, h, _ => by simp [okN] at h
  | _, .any, _, h, _ => by simp [okN] at h
theorem dps_of : ∀ {n : Nat} {ds : List D} {vs : List V}, okN.okNs n ds = true → RDs K H ds vs → DpAll K H vs (toP.toPs ds)
  | _, [], _, _, r => by cases r; exact .nil
  | n, d :: ds, _, h, r => by
    obtain ⟨x, xs, rfl, a, b⟩ := r
    have h' : okN n d = true ∧ okN.okNs n ds = true := by simpa [okN.okNs] using h
    exact .cons (dp_of h'.1 a) (dps_of h'.2 b)
end
theorem strOk_of {s : Tx} (h : okc s) : PySem.PyData.strOk ⟨s.toArray⟩ = true := by
  unfold PySem.PyData.strOk
  simp only [List.all_toArray, List.all_eq_true, decide_eq_true_eq]
  exact h
mutual
theorem lay_of : ∀ {n : Nat} {d : D} {v : V}, okN n d = true → RD K H d v → (toP d).canLay0 = true ∧ (toP d).depth ≤ n
  | _, .non, _, _, r => ⟨rfl, Nat.zero_le _⟩
  | _, .bl b, _, _, r => ⟨rfl, Nat.zero_le _⟩
  | _, .int i, _, _, r => ⟨rfl, Nat.zero_le _⟩
  | _, .str s, _, _, r => ⟨strOk_of r.2, Nat.zero_le _⟩
  | n, .tup ds, _, h, r => by
    obtain ⟨a, xs, rfl, s, t⟩ := r
    cases n with
    | zero => exact absurd h (by simp [okN])
    | succ n =>
      obtain ⟨h1, h2⟩ := lays_of (n := n) (by simpa [okN] using h) t
      exact ⟨h1, Nat.succ_le_succ h2⟩
  | n, .fl ds, _, h, r => by
    obtain ⟨a, xs, rfl, s, t⟩ := r
    cases n with
    | zero => exact absurd h (by simp [okN])
    | succ n =>
      obtain ⟨h1, h2⟩ := lays_of (n := n) (by simpa [okN] using h) t
      exact ⟨h1, Nat.succ_le_succ h2⟩
  | _, .ob _, _, h, _ => by simp [okN] at h
  | _, .ty _, _, h, _ => by simp [okN] at h
  | _, .any, _, h, _ => by simp [okN] at h
theorem lays_of : ∀ {n : Nat} {ds : List D} {vs : List V}, okN.okNs n ds = true → RDs K H ds vs → PyData.canLayAll0 (toP.toPs ds) = true ∧ PyData.depthAll (toP.toPs ds) ≤ n
  | _, [], _, _, r => ⟨rfl, Nat.zero_le _⟩
  | n, d :: ds, _, h, r => by
    obtain ⟨x, xs, rfl, a, b⟩ := r
    have h' : okN n d = true ∧ okN.okNs n ds = true := by simpa [okN.okNs] using h
    obtain ⟨a1, a2⟩ := lay_of h'.1 a
    obtain ⟨b1, b2⟩ := lays_of h'.2 b
    exact ⟨by simp [toP.toPs, PyData.canLayAll0, a1, b1], by simp only [toP.toPs, PyData.depthAll]; omega⟩
end
theorem shaped_of {d : D} {v : V} (h : okN 64 d = true) (r : RD K H d v) : SeqAt.shaped (toP d) = true := by
  obtain ⟨h1, h2⟩ := lay_of h r
  show ((toP d).canLay0 && decide ((toP d).depth ≤ 64)) = true
  rw [h1, decide_eq_true h2]; rfl
end
def deq (d e : D) : Bool := PyData.eqv (toP d) (toP e)
def eqD : D2 := fun d e M Q => okN 64 d = true ∧ okN 64 e = true ∧ Q (.bl (deq d e)) M
def neD : D2 := fun d e M Q => okN 64 d = true ∧ okN 64 e = true ∧ Q (.bl (!deq d e)) M
theorem o2_eq {K : PySem.W.Frag} : O2 K (rEqD K) eqD := by
  intro x y d e H M Q Q' r1 r2 m w k
  exact ⟨_, _, dp_of w.1 r1, dp_of w.2.1 r2, shaped_of w.1 r1, shaped_of w.2.1 r2, k _ H _ M (TK.refl H) RD.blI m w.2.2⟩
theorem o2_ne {K : PySem.W.Frag} : O2 K (rNeD K) neD := by
  intro x y d e H M Q Q' r1 r2 m w k
  exact ⟨_, _, dp_of w.1 r1, dp_of w.2.1 r2, shaped_of w.1 r1, shaped_of w.2.1 r2, k _ H _ M (TK.refl H) RD.blI m w.2.2⟩
/-! what == gives -/
theorem deq_str (x y : Tx) : deq (.str x) (.str y) = decide (x = y) := by
  show ((⟨x.toArray⟩ : Str) == ⟨y.toArray⟩) = _
  by_cases h : x = y
  · subst h; simp
  · rw [decide_eq_false h]
    exact beq_eq_false_iff_ne.mpr fun q => h (by injection q with q; simpa using congrArg Array.toList q)
theorem deq_int (x y : Int) : deq (.int x) (.int y) = decide (x = y) := by
  show (x == y) = _
  exact Bool.beq_eq_decide_eq x y
theorem deq_bl (x y : Bool) : deq (.bl x) (.bl y) = (x == y) := rfl
theorem deq_non : deq .non .non = true := rfl
theorem deq_non_str (x : Tx) : deq .non (.str x) = false := rfl
theorem deq_str_non (x : Tx) : deq (.str x) .non = false := rfl
theorem deq_int_str (i : Int) (x : Tx) : deq (.int i) (.str x) = false := rfl
theorem deq_str_int (i : Int) (x : Tx) : deq (.str x) (.int i) = false := rfl
theorem deq_non_int (i : Int) : deq .non (.int i) = false := rfl
theorem deq_int_non (i : Int) : deq (.int i) .non = false := rfl
theorem deq_tup_str (i : List D) (x : Tx) : deq (.tup i) (.str x) = false := rfl
theorem deq_str_tup (i : List D) (x : Tx) : deq (.str x) (.tup i) = false := rfl
theorem deq_tup_non (i : List D) : deq (.tup i) .non = false := rfl
theorem deq_non_tup (i : List D) : deq .non (.tup i) = false := rfl
theorem deq_tup_nil : deq (.tup []) (.tup []) = true := rfl
theorem deq_tup_cons (x y : D) (xs ys : List D) : deq (.tup (x :: xs)) (.tup (y :: ys)) = (deq x y && deq (.tup xs) (.tup ys)) := rfl
theorem deq_tup_nc (y : D) (ys : List D) : deq (.tup []) (.tup (y :: ys)) = false := rfl
theorem deq_tup_cn (y : D) (ys : List D) : deq (.tup (y :: ys)) (.tup []) = false := rfl

/-! ### in -/
/-- one sign in a text; an item in a tuple or a list that never changes; an item in a list -/
def inD (neg : Bool) : D2 := fun d e M Q => match e with
  | .str z => ∃ c, d = .str [c] ∧ Q (.bl (xor neg (decide (c ∈ z)))) M
  | .tup xs => okN 64 d = true ∧ okN 64 (.tup xs) = true ∧ Q (.bl (xor neg (xs.any fun x => deq x d))) M
  | .ob a => onL M a fun xs => okN 64 d = true ∧ okN 64 (.tup xs) = true ∧ Q (.bl (xor neg (xs.any fun x => deq x d))) M
  | _ => False
section
variable {X : Cx}
def rInT (K : PySem.W.Frag) (neg : Bool) : R2 := fun x y H Q => ∃ d ds, Dp K H x d ∧ Dp K H y (.tuple ds) ∧ SeqAt.shaped d = true ∧ SeqAt.shaped (.tuple ds) = true ∧ Q (.bl (xor neg (ds.any fun z => PyData.eqv z d))) H
theorem op_inT (hu : X.A.units + 65 < cLine) : OpR X (compareOp .In) (rInT X.K false) := by
  intro pins s σ H x y v u Q I rx ry h
  obtain ⟨d, ds, hd, he, sd, se, q⟩ := h
  obtain ⟨as, r1⟩ := Dp.reads I d x v hd rx
  obtain ⟨bs, r2⟩ := Dp.reads I (.tuple ds) y u he ry
  exact SeqAt.in_tuple_reads r2 r1 (SeqAt.canLay_of_shaped se) (SeqAt.canLay_of_shaped sd) (room_in_shaped sd hu) ⟨.bl _, H, I, rfl, by simpa using q⟩
theorem op_notInT (hu : X.A.units + 65 < cLine) : OpR X (compareOp .NotIn) (rInT X.K true) := by
  intro pins s σ H x y v u Q I rx ry h
  obtain ⟨d, ds, hd, he, sd, se, q⟩ := h
  obtain ⟨as, r1⟩ := Dp.reads I d x v hd rx
  obtain ⟨bs, r2⟩ := Dp.reads I (.tuple ds) y u he ry
  exact SeqAt.notIn_tuple_reads r2 r1 (SeqAt.canLay_of_shaped se) (SeqAt.canLay_of_shaped sd) (room_in_shaped sd hu) ⟨.bl _, H, I, rfl, by simpa using q⟩
def rInL (K : PySem.W.Frag) (neg : Bool) : R2 := fun x y H Q => ∃ d ds, Dp K H x d ∧ Dp K H y (.list ds) ∧ SeqAt.shaped d = true ∧ SeqAt.shaped (.list ds) = true ∧ Q (.bl (xor neg (ds.any fun z => PyData.eqv z d))) H
theorem op_inL (hu : X.A.units + 65 < cLine) : OpR X (compareOp .In) (rInL X.K false) := by
  intro pins s σ H x y v u Q I rx ry h
  obtain ⟨d, ds, hd, he, sd, se, q⟩ := h
  obtain ⟨as, r1⟩ := Dp.reads I d x v hd rx
  obtain ⟨bs, r2⟩ := Dp.reads I (.list ds) y u he ry
  exact SeqAt.in_list_reads r2 r1 (SeqAt.canLay_of_shaped se) (SeqAt.canLay_of_shaped sd) (room_in_shaped sd hu) ⟨.bl _, H, I, rfl, by simpa using q⟩
theorem op_notInL (hu : X.A.units + 65 < cLine) : OpR X (compareOp .NotIn) (rInL X.K true) := by
  intro pins s σ H x y v u Q I rx ry h
  obtain ⟨d, ds, hd, he, sd, se, q⟩ := h
  obtain ⟨as, r1⟩ := Dp.reads I d x v hd rx
  obtain ⟨bs, r2⟩ := Dp.reads I (.list ds) y u he ry
  exact SeqAt.notIn_list_reads r2 r1 (SeqAt.canLay_of_shaped se) (SeqAt.canLay_of_shaped sd) (room_in_shaped sd hu) ⟨.bl _, H, I, rfl, by simpa using q⟩
def rInS (neg : Bool) : R2 := fun x y H Q => ∃ (c : Nat) (z : Str), x = .str ⟨#[c]⟩ ∧ y = .str z ∧ Q (.bl (xor neg (decide (c ∈ z.cps.toList)))) H
def rInAll (K : PySem.W.Frag) (neg : Bool) : R2 := fun x y H Q => rInS neg x y H Q ∨ rInT K neg x y H Q ∨ rInL K neg x y H Q
theorem opr_weak {f : Value → Value → Sem Value} {r r' : R2} (h : OpR X f r) (k : ∀ x y H Q, r' x y H Q → r x y H Q) : OpR X f r' := fun pins s σ H x y v u Q I rx ry q => h pins s σ H x y v u Q I rx ry (k _ _ _ _ q)
theorem op_inAll (hu : X.A.units + 65 < cLine) : OpR X (compareOp .In) (rInAll X.K false) := OpR.or (opr_weak op_in_sign fun x y H Q h => by
  obtain ⟨c, z, h1, h2, q⟩ := h
  exact ⟨c, z, h1, h2, by simpa using q⟩) (OpR.or (op_inT hu) (op_inL hu))
theorem op_notInAll (hu : X.A.units + 65 < cLine) : OpR X (compareOp .NotIn) (rInAll X.K true) := OpR.or (opr_weak op_notIn_sign fun x y H Q h => by
  obtain ⟨c, z, h1, h2, q⟩ := h
  exact ⟨c, z, h1, h2, by simpa using q⟩) (OpR.or (op_notInT hu) (op_notInL hu))
end
theorem any_toPs (d : D) : ∀ xs : List D, (toP.toPs xs).any (fun z => PyData.eqv z (toP d)) = xs.any fun x => deq x d
  | [] => rfl
  | x :: xs => by
    show (PyData.eqv (toP x) (toP d) || _) = _
    rw [any_toPs d xs]; rfl
theorem okNs_of {n : Nat} {xs : List D} (h : okN (n + 1) (.tup xs) = true) : okN.okNs n xs = true := by simpa [okN] using h
theorem o2_in {K : PySem.W.Frag} {neg : Bool} : O2 K (rInAll K neg) (inD neg) := by
  intro x y d e H M Q Q' r1 r2 m w k
  unfold inD at w
  split at w
  · obtain ⟨c, rfl, w⟩ := w
    obtain ⟨rfl, _⟩ := r1
    obtain ⟨rfl, _⟩ := r2
    exact .inl ⟨c, _, rfl, rfl, k _ H _ M (TK.refl H) RD.blI m (by simpa using w)⟩
  · rename_i xs
    obtain ⟨h1, h2, w⟩ := w
    refine .inr (.inl ⟨_, _, dp_of h1 r1, dp_of h2 r2, shaped_of h1 r1, shaped_of h2 r2, ?_⟩)
    rw [any_toPs]
    exact k _ H _ M (TK.refl H) RD.blI m w
  · rename_i a
    cases r2
    obtain ⟨xs, e1, h1, h2, w⟩ := w
    obtain ⟨us, h3, t1⟩ := m _ _ e1
    have z := okNs_of h2
    obtain ⟨l1, l2⟩ := lays_of z t1
    refine .inr (.inr ⟨_, _, dp_of h1 r1, .lst (SqL.of h3) (dps_of z t1), shaped_of h1 r1, ?_, ?_⟩)
    · show (PyData.canLay0 (.list _) && decide (PyData.depth (.list _) ≤ 64)) = true
      rw [Bool.and_eq_true]
      exact ⟨by simp only [PyData.canLay0]; exact l1, decide_eq_true (by simp only [PyData.depth]; omega)⟩
    · rw [any_toPs]
      exact k _ H _ M (TK.refl H) RD.blI m w
  · exact w.elim
/-! ### is None -/
def isNone : D → Bool
  | .non => true
  | _ => false
def isND (neg : Bool) : D2 := fun d e M Q => e = .non ∧ Q (.bl (xor neg (isNone d))) M
def rIsN (neg : Bool) : R2 := fun x y H Q => y = .non ∧ Q (.bl (xor neg (decide (x = .non)))) H
theorem isNone_of {K : PySem.W.Frag} {H : Hp} {d : D} {x : V} (r : RD K H d x) : decide (x = .non) = isNone d := by
  cases d with
  | non => cases r; rfl
  | bl _ => cases r; rfl
  | int _ => cases r; rfl
  | str _ => obtain ⟨rfl, _⟩ := r; rfl
  | tup _ => obtain ⟨_, _, rfl, _⟩ := r; rfl
  | fl _ => obtain ⟨_, _, rfl, _⟩ := r; rfl
  | ob _ => cases r; rfl
  | ty _ => cases r; rfl
  | any => obtain ⟨_, rfl⟩ := r; rfl
theorem op_isN' {X : Cx} : OpR X (compareOp .Is) (rIsN false) := opr_weak op_isN fun x y H Q h => ⟨h.1, by simpa using h.2⟩
theorem op_notN' {X : Cx} : OpR X (compareOp .IsNot) (rIsN true) := opr_weak op_notN fun x y H Q h => ⟨h.1, by simpa using h.2⟩
theorem o2_isN {K : PySem.W.Frag} {neg : Bool} : O2 K (rIsN neg) (isND neg) := by
  intro x y d e H M Q Q' r1 r2 m w k
  obtain ⟨rfl, w⟩ := w
  refine ⟨r2, ?_⟩
  rw [isNone_of r1]
  exact k _ H _ M (TK.refl H) RD.blI m w
end QL

namespace QL
open PySem PySem.Spec PyProof.Rows L2

section
variable {X : Cx} {W : WX} {a b c e : Expr} {es : List Expr} {wa wb wc : DE} {ws : DA} {ta tb tc : DT} {pos : Pos}
/-! ### truth -/
def truD (d : D) (M : Mp) (Q : Bool → Mp → Prop) : Prop := match d with
  | .non => Q false M
  | .bl b => Q b M
  | .int i => Q (i != 0) M
  | .str s => s.length ≤ sizeLine ∧ Q (!s.isEmpty) M
  | .tup xs => Q (!xs.isEmpty) M
  | .fl xs => Q (!xs.isEmpty) M
  | .ob a => (∃ xs, M a = some (.lst xs) ∧ Q (!xs.isEmpty) M) ∨ (∃ kvs, M a = some (.dic kvs) ∧ Q (!kvs.isEmpty) M)
  | .ty _ => False
  | .any => False
theorem isEmpty_rds {K : PySem.W.Frag} {H : Hp} {ds : List D} {xs : List V} (r : RDs K H ds xs) : xs.isEmpty = ds.isEmpty := by
  cases ds with
  | nil => cases r; rfl
  | cons d ds => obtain ⟨_, _, rfl, _⟩ := r; rfl
theorem isEmpty_kvs {κ : Type} {K : PySem.W.Frag} {H : Hp} {kf : D → Option κ} {ds : List (D × D)} {xs : List (κ × V)} (r : Kvs K H kf ds xs) : xs.isEmpty = ds.isEmpty := by
  cases ds with
  | nil => cases r; rfl
  | cons d ds => obtain ⟨_, _, _, rfl, _⟩ := r; rfl
theorem tru_of {K : PySem.W.Frag} {H : Hp} {M : Mp} {d : D} {x : V} {Q : Bool → Mp → Prop} (r : RD K H d x) (m : RM K H M) (w : truD d M Q) : ∃ b, TruV K x H b ∧ Q b M := by
  unfold truD at w
  cases d with
  | non => cases r; exact ⟨_, rfl, w⟩
  | bl b => cases r; exact ⟨_, rfl, w⟩
  | int i => cases r; exact ⟨_, rfl, w⟩
  | str s =>
    obtain ⟨rfl, _⟩ := r
    refine ⟨_, ⟨by rw [str_len]; exact w.1, rfl⟩, ?_⟩
    have e : ((Str.length ⟨s.toArray⟩ : Int) != 0) = !s.isEmpty := by
      rw [str_len]
      cases s with
      | nil => rfl
      | cons c s =>
        show _ = true
        rw [bne_iff_ne]
        simp only [List.length_cons]
        omega
    rw [e]; exact w.2
  | tup ds =>
    obtain ⟨a, xs, rfl, s, t⟩ := r
    exact ⟨_, .inr (.inl ⟨xs, s, rfl⟩), by rw [isEmpty_rds t]; exact w⟩
  | fl ds =>
    obtain ⟨a, xs, rfl, s, t⟩ := r
    exact ⟨_, .inl ⟨xs, s.sq, rfl⟩, by rw [isEmpty_rds t]; exact w⟩
  | ob a =>
    cases r
    rcases w with ⟨xs, e, w⟩ | ⟨kvs, e, w⟩
    · obtain ⟨us, h, t⟩ := m _ _ e
      exact ⟨_, .inl ⟨us, SqL.of h, rfl⟩, by rw [isEmpty_rds t]; exact w⟩
    · obtain ⟨gs, h, t⟩ := m _ _ e
      exact ⟨_, .inr (.inr ⟨gs, h, rfl⟩), by rw [isEmpty_kvs t]; exact w⟩
  | ty n => exact w.elim
  | any => exact w.elim
def wTru (w : DE) : DT := fun δ M Q E => w δ M (fun d M' => truD d M' Q) E
theorem qt_tru (ha : QE X W a wa) (he : ∀ whole, isTrue a X.env whole = (do let v ← whole; standAt a.pos; holding [v] (truthy v)) := by intro _; rfl) : QT X W a (wTru wa) :=
  pt_weak (pt_truth ha he) fun σ H Q ⟨H0, δ, M, Q', XX, p, w, k⟩ => ⟨H0, δ, M, _, XX, p, w, fun v H' d M' k1 r1 m1 w1 => let ⟨b, hb, q⟩ := tru_of r1 m1 w1; ⟨b, hb, k b H' M' k1 m1 q⟩⟩
/-! ### and, or, not as tests -/
def wAnd (t u : DT) : DT := fun δ M Q E => t δ M (fun c M1 => if c = true then u δ M1 Q E else Q false M1) E
def wOr (t u : DT) : DT := fun δ M Q E => t δ M (fun c M1 => if c = true then Q true M1 else u δ M1 Q E) E
def wNot (t : DT) : DT := fun δ M Q E => t δ M (fun c M1 => Q (!c) M1) E
theorem qw_and1 (ha : QT X W a ta) : QW X W (.BoolOp .And [a] pos) ta := pw_and1 ha
theorem qw_or1 (ha : QT X W a ta) : QW X W (.BoolOp .Or [a] pos) ta := pw_or1 ha
theorem qw_and (ha : QT X W a ta) (hb : QW X W (.BoolOp .And (b :: es) pos) tb) : QW X W (.BoolOp .And (a :: b :: es) pos) (wAnd ta tb) :=
  pw_weak (pw_and ha hb) fun σ H Q ⟨H0, δ, M, Q', XX, p, w, k⟩ => ⟨H0, δ, M, _, XX, p, w, fun c H1 M1 k1 m1 w1 => by
    cases c with
    | true =>
      rw [if_pos rfl] at w1 ⊢
      exact ⟨H0, δ, M1, Q', XX, p.step k1 m1, w1, fun b H' M' k2 => k b H' M' (k1.trans k2)⟩
    | false =>
      rw [if_neg Bool.false_ne_true] at w1 ⊢
      exact k _ _ _ k1 m1 w1⟩
theorem qw_or (ha : QT X W a ta) (hb : QW X W (.BoolOp .Or (b :: es) pos) tb) : QW X W (.BoolOp .Or (a :: b :: es) pos) (wOr ta tb) :=
  pw_weak (pw_or ha hb) fun σ H Q ⟨H0, δ, M, Q', XX, p, w, k⟩ => ⟨H0, δ, M, _, XX, p, w, fun c H1 M1 k1 m1 w1 => by
    cases c with
    | false =>
      rw [if_neg Bool.false_ne_true] at w1 ⊢
      exact ⟨H0, δ, M1, Q', XX, p.step k1 m1, w1, fun b H' M' k2 => k b H' M' (k1.trans k2)⟩
    | true =>
      rw [if_pos rfl] at w1 ⊢
      exact k _ _ _ k1 m1 w1⟩
theorem qt_bool (h : QW X W a ta) : QT X W a ta := h.pt
theorem qt_not (ha : QT X W a ta) : QT X W (.UnaryOp .Not a pos) (wNot ta) :=
  pt_weak (pt_not ha) fun σ H Q ⟨H0, δ, M, Q', XX, p, w, k⟩ => ⟨H0, δ, M, _, XX, p, w, fun c H1 M1 k1 m1 w1 => k _ _ _ k1 m1 w1⟩
/-! ### and, or, not as values -/
def wAndV (wa wb : DE) : DE := fun δ M Q E => wa δ M (fun d M1 => truD d M1 fun c M2 => if c = true then wb δ M2 Q E else Q d M2) E
def wOrV (wa wb : DE) : DE := fun δ M Q E => wa δ M (fun d M1 => truD d M1 fun c M2 => if c = true then Q d M2 else wb δ M2 Q E) E
def wNotV (wa : DE) : DE := fun δ M Q E => wa δ M (fun d M1 => truD d M1 fun c M2 => Q (.bl (!c)) M2) E
theorem truD_same {d : D} {M : Mp} {Q : Bool → Mp → Prop} (w : truD d M Q) : truD d M fun b M' => M' = M ∧ Q b M := by
  unfold truD at *
  cases d with
  | str s => exact ⟨w.1, rfl, w.2⟩
  | ob a =>
    rcases w with ⟨xs, e, w⟩ | ⟨xs, e, w⟩
    · exact .inl ⟨xs, e, rfl, w⟩
    · exact .inr ⟨xs, e, rfl, w⟩
  | ty n => exact w
  | any => exact w
  | _ => exact ⟨rfl, w⟩
theorem qe_one {op} (h : QE X W a wa) : QE X W (.BoolOp op [a] pos) wa := pe_one h
theorem qe_and (ha : QE X W a wa) (hb : QE X W (.BoolOp .And (b :: es) pos) wb) : QE X W (.BoolOp .And (a :: b :: es) pos) (wAndV wa wb) :=
  pe_weak (pe_andT ha hb) fun σ H Q ⟨H0, δ, M, Q', XX, p, w, k⟩ => ⟨H0, δ, M, _, XX, p, w, fun v H1 d M1 k1 r1 m1 w1 => by
    obtain ⟨c, hc, q⟩ := tru_of r1 m1 w1
    refine ⟨c, hc, ?_⟩
    cases c with
    | true =>
      rw [if_pos rfl] at q ⊢
      exact ⟨H0, δ, M1, Q', XX, p.step k1 m1, q, fun v H' d M' k2 => k v H' d M' (k1.trans k2)⟩
    | false =>
      rw [if_neg Bool.false_ne_true] at q ⊢
      exact k _ _ _ _ k1 r1 m1 q⟩
theorem qe_or (ha : QE X W a wa) (hb : QE X W (.BoolOp .Or (b :: es) pos) wb) : QE X W (.BoolOp .Or (a :: b :: es) pos) (wOrV wa wb) :=
  pe_weak (pe_orT ha hb) fun σ H Q ⟨H0, δ, M, Q', XX, p, w, k⟩ => ⟨H0, δ, M, _, XX, p, w, fun v H1 d M1 k1 r1 m1 w1 => by
    obtain ⟨c, hc, q⟩ := tru_of r1 m1 w1
    refine ⟨c, hc, ?_⟩
    cases c with
    | false =>
      rw [if_neg Bool.false_ne_true] at q ⊢
      exact ⟨H0, δ, M1, Q', XX, p.step k1 m1, q, fun v H' d M' k2 => k v H' d M' (k1.trans k2)⟩
    | true =>
      rw [if_pos rfl] at q ⊢
      exact k _ _ _ _ k1 r1 m1 q⟩
theorem qe_not (ha : QE X W a wa) : QE X W (.UnaryOp .Not a pos) (wNotV wa) :=
  pe_weak (pe_notT ha) fun σ H Q ⟨H0, δ, M, Q', XX, p, w, k⟩ => ⟨H0, δ, M, _, XX, p, w, fun v H1 d M1 k1 r1 m1 w1 => let ⟨c, hc, q⟩ := tru_of r1 m1 w1; ⟨c, hc, k _ _ _ _ k1 RD.blI m1 q⟩⟩
def wIf (t : DT) (wa wb : DE) : DE := fun δ M Q E => t δ M (fun c M1 => if c = true then wa δ M1 Q E else wb δ M1 Q E) E
theorem qe_ifx (hc : QT X W c tc) (ha : QE X W a wa) (hb : QE X W b wb) : QE X W (.IfExp c a b pos) (wIf tc wa wb) :=
  pe_weak (pe_ifExp hc ha hb) fun σ H Q ⟨H0, δ, M, Q', XX, p, w, k⟩ => ⟨H0, δ, M, _, XX, p, w, fun c H1 M1 k1 m1 w1 => by
    cases c with
    | true =>
      rw [if_pos rfl] at w1 ⊢
      exact ⟨H0, δ, M1, Q', XX, p.step k1 m1, w1, fun v H' d M' k2 => k v H' d M' (k1.trans k2)⟩
    | false =>
      rw [if_neg Bool.false_ne_true] at w1 ⊢
      exact ⟨H0, δ, M1, Q', XX, p.step k1 m1, w1, fun v H' d M' k2 => k v H' d M' (k1.trans k2)⟩⟩
/-! ### rows of expressions, displays -/
def wNil : DA := fun _ M Q _ => Q [] M
def wCons (wa : DE) (ws : DA) : DA := fun δ M Q E => wa δ M (fun d M1 => ws δ M1 (fun ds M2 => Q (d :: ds) M2) E) E
theorem qa_nil : QA X W [] wNil := pa_weak pa_nil fun σ H Q ⟨H0, δ, M, Q', XX, p, w, k⟩ => k [] H [] M (TK.refl H) rfl p.rm w
theorem qa_cons (he : QE X W e wa) (hes : QA X W es ws) (na : starEach (e :: es) X.env = (false, eval e X.env) :: starEach es X.env := by rfl) : QA X W (e :: es) (wCons wa ws) :=
  pa_weak (pa_cons he hes na) fun σ H Q ⟨H0, δ, M, Q', XX, p, w, k⟩ => ⟨H0, δ, M, _, XX, p, w, fun v H1 d M1 k1 r1 m1 w1 => ⟨H0, δ, M1, _, XX, p.step k1 m1, w1, fun vs H2 ds M2 k2 r2 m2 w2 =>
    k (v :: vs) H2 (d :: ds) M2 (k1.trans k2) ⟨v, vs, rfl, RD.tk k2 r1, r2⟩ m2 w2⟩⟩
def wTup (ws : DA) : DE := fun δ M Q E => ws δ M (fun ds M1 => ds.length ≤ 1000 ∧ Q (.tup ds) M1) E
def wLst (ws : DA) : DE := fun δ M Q E => ws δ M (fun ds M1 => ds.length ≤ 1000 ∧ ∀ p, M1 p = none → Q (.ob p) (upm M1 p (.lst ds))) E
theorem small_line {n : Nat} (h : n ≤ 1000) : n ≤ sizeLine := Nat.le_of_lt (small1000 h)
theorem qe_tup {x1} (h : QA X W es ws) : QE X W (.Tuple es x1 pos) (wTup ws) :=
  pe_weak (pe_tup h) fun σ H Q ⟨H0, δ, M, Q', XX, p, w, k⟩ => ⟨H0, δ, M, _, XX, p, w, fun vs H1 ds M1 k1 r1 m1 w1 =>
    ⟨by rw [← r1.length]; exact small_line w1.1, fun q hq => k _ _ _ M1 (k1.trans (TK.new hq)) (RD.tupI (SqT.of upd_same) (RDs.tk (TK.new hq) r1)) (m1.skip hq) w1.2⟩⟩
theorem qe_lst (h : QA X W es ws) : QE X W (.List es pos) (wLst ws) :=
  pe_weak (pe_lst h) fun σ H Q ⟨H0, δ, M, Q', XX, p, w, k⟩ => ⟨H0, δ, M, _, XX, p, w, fun vs H1 ds M1 k1 r1 m1 w1 =>
    ⟨by rw [← r1.length]; exact small_line w1.1, fun q hq => k _ _ _ _ (k1.trans (TK.new hq)) RD.obI (m1.new hq (RO.lstI upd_same (RDs.tk (TK.new hq) r1))) (w1.2 q (m1.none hq))⟩⟩
/-! ### a[i] -/
theorem atI_rd {K : PySem.W.Frag} {H : Hp} {ds : List D} {vs : List V} {i : Int} {d : D} (r : RDs K H ds vs) (h : atI ds i = some d) : ∃ v, atI vs i = some v ∧ RD K H d v := by
  unfold atI at h ⊢
  rw [r.length] at h
  cases e : ixN vs.length i with
  | none => rw [e] at h; cases h
  | some j => rw [e] at h; exact r.get h
def ixD : D2 := fun d e M Q => match d, e with
  | .str z, .int i => z.length ≤ sizeLine ∧ ∃ c, atI z i = some c ∧ Q (.str [c]) M
  | .tup xs, .int i => ∃ x, atI xs i = some x ∧ Q x M
  | .fl xs, .int i => ∃ x, atI xs i = some x ∧ Q x M
  | .ob a, .int i => onL M a fun xs => ∃ x, atI xs i = some x ∧ Q x M
  | _, _ => False
theorem atI_mem {α : Type} {xs : List α} {i : Int} {v : α} (h : atI xs i = some v) : v ∈ xs := by
  obtain ⟨j, _, e, _⟩ := atI_get h
  exact List.mem_of_getElem? e
theorem o2_ix {K : PySem.W.Frag} : O2 K (rIx K) ixD := by
  intro x y d e H M Q Q' r1 r2 m w k
  unfold ixD at w
  split at w
  · obtain ⟨h1, c, h2, w⟩ := w
    obtain ⟨rfl, ok⟩ := r1
    cases r2
    exact .inr (.inr ⟨_, _, c, rfl, rfl, by rw [str_len]; exact h1, by simpa using h2, k _ H _ M (TK.refl H) (RD.strI fun c' hc => by
      have e : c' = c := by simpa using hc
      rw [e]; exact ok c (atI_mem h2)) m w⟩)
  · obtain ⟨x, h2, w⟩ := w
    obtain ⟨a, xs, rfl, s, t⟩ := r1
    cases r2
    obtain ⟨v, h3, rv⟩ := atI_rd t h2
    exact .inr (.inl ⟨a, xs, _, v, rfl, rfl, s, h3, k _ H _ M (TK.refl H) rv m w⟩)
  · obtain ⟨x, h2, w⟩ := w
    obtain ⟨a, xs, rfl, s, t⟩ := r1
    cases r2
    obtain ⟨v, h3, rv⟩ := atI_rd t h2
    exact .inl ⟨a, xs, _, v, rfl, rfl, s.sq, h3, k _ H _ M (TK.refl H) rv m w⟩
  · obtain ⟨xs, e1, x, h2, w⟩ := w
    cases r1
    cases r2
    obtain ⟨us, h, t⟩ := m _ _ e1
    obtain ⟨v, h3, rv⟩ := atI_rd t h2
    exact .inl ⟨_, us, _, v, rfl, rfl, SqL.of h, h3, k _ H _ M (TK.refl H) rv m w⟩
  · exact w.elim
theorem qe_ix (ha : QE X W a wa) (hb : QE X W b wb) (hs : PlainIx b := by intro _ _; rfl) : QE X W (.Subscript a b pos) (wOp ixD wa wb) :=
  pe_weak (pe_ix ix_seq ha hb hs) fun _ _ _ h => two o2_ix h
/-! ### a[i:j] -/
abbrev DO := Env → Mp → (Option Int → Mp → Prop) → XKD → Prop
def cO (K : PySem.W.Frag) (W : WX) (w : DO) : TO := fun σ H Q => ∃ H0 δ M Q' XX, Pre K W H0 σ H δ M XX ∧ w δ M Q' (fun x M => XX x δ M) ∧
  ∀ i H' M', TK H H' → RM K H' M' → Q' i M' → Q i H'
abbrev QO (X : Cx) (W : WX) (e : Option Expr) (w : DO) : Prop := PO X e (cO X.K W w)
def wNo : DO := fun _ M Q _ => Q none M
def wSo (wa : DE) : DO := fun δ M Q E => wa δ M (fun d M1 => ∃ i, d = .int i ∧ Q (some i) M1) E
theorem po_weak {e : Option Expr} {t t' : TO} (h : PO X e t) (k : ∀ σ H Q, t' σ H Q → t σ H Q) : PO X e t' := ⟨fun pins s σ H Q I q => h.run pins s σ H Q I (k σ H Q q)⟩
theorem qo_none : QO X W none wNo := po_weak po_none fun σ H Q ⟨H0, δ, M, Q', XX, p, w, k⟩ => k none H M (TK.refl H) p.rm w
theorem qo_some (h : QE X W e wa) : QO X W (some e) (wSo wa) := po_weak (po_some h) fun σ H Q ⟨H0, δ, M, Q', XX, p, w, k⟩ => ⟨H0, δ, M, _, XX, p, w, fun v H1 d M1 k1 r1 m1 w1 => by
  obtain ⟨i, rfl, w1⟩ := w1
  exact ⟨i, r1, k _ _ _ k1 m1 w1⟩⟩
def cut {α : Type} (xs : List α) (lo hi : Option Int) : List α := (xs.drop (HT.sIx xs.length 0 lo)).take (HT.sIx xs.length xs.length hi - HT.sIx xs.length 0 lo)
def slD (d : D) (lo hi : Option Int) (M : Mp) (Q : KD) : Prop := match d with
  | .str z => z.length ≤ sizeLine ∧ Q (.str (cut z lo hi)) M
  | .tup xs => Q (.tup (cut xs lo hi)) M
  | .ob a => onL M a fun xs => ∀ p, M p = none → Q (.ob p) (upm M p (.lst (cut xs lo hi)))
  | _ => False
def wSl (wa : DE) (lo hi : DO) : DE := fun δ M Q E => wa δ M (fun d M1 => lo δ M1 (fun i M2 => hi δ M2 (fun j M3 => slD d i j M3 Q) E) E) E
def rSlAll (K : PySem.W.Frag) : V → Option Int → Option Int → Hp → VK → Prop := fun x lo hi H Q => rSlS x lo hi H Q ∨ rSlA K x lo hi H Q ∨ rSlL K x lo hi H Q
theorem cut_rds {K : PySem.W.Frag} {H : Hp} {ds : List D} {vs : List V} (lo hi : Option Int) (r : RDs K H ds vs) : RDs K H (cut ds lo hi) (cutV vs lo hi) := by
  unfold cut cutV
  rw [r.length]
  exact (r.drop _).take _
theorem cutS_of {z : Tx} (lo hi : Option Int) : cutS ⟨z.toArray⟩ lo hi = ⟨(cut z lo hi).toArray⟩ := by
  unfold cutS cut
  simp [Str.length]
theorem cut_sub {α : Type} {z : List α} {lo hi : Option Int} : ∀ c ∈ cut z lo hi, c ∈ z := fun c h => List.mem_of_mem_drop (List.mem_of_mem_take h)
theorem cut_len {α : Type} {z : List α} {lo hi : Option Int} : (cut z lo hi).length ≤ z.length := by
  unfold cut; rw [List.length_take, List.length_drop]; omega
theorem cut_whole {α : Type} {z : List α} {lo hi : Option Int} (h : HT.sIx z.length 0 lo = 0 ∧ HT.sIx z.length z.length hi = z.length) : cut z lo hi = z := by
  unfold cut; rw [h.1, h.2]; simp
theorem qe_sl {lo hi : Option Expr} {wl wh : DO} {p2 : Pos} (ha : QE X W a wa) (hl : QO X W lo wl) (hh : QO X W hi wh) : QE X W (.Subscript a (.Slice lo hi none p2) pos) (wSl wa wl wh) :=
  pe_weak (pe_slice (r := rSlAll X.K) (sl_str.or (sl_tupA.or sl_list)) ha hl hh) fun σ H Q ⟨H0, δ, M, Q', XX, p, w, k⟩ => by
    refine ⟨H0, δ, M, _, XX, p, w, fun v H1 d M1 k1 r1 m1 w1 => ⟨H0, δ, M1, _, XX, p.step k1 m1, w1, fun i H2 M2 k2 m2 w2 => ⟨H0, δ, M2, _, XX, (p.step k1 m1).step k2 m2, w2, fun j H3 M3 k3 m3 w3 => ?_⟩⟩⟩
    have r3 := RD.tk (k2.trans k3) r1
    have kk := fun v H' d M' (k4 : TK H3 H') => k v H' d M' (k1.trans (k2.trans (k3.trans k4)))
    unfold slD at w3
    split at w3
    · obtain ⟨rfl, ok⟩ := r3
      refine .inl ⟨_, rfl, by rw [str_len]; exact w3.1, ?_⟩
      rw [cutS_of]
      exact kk _ _ _ M3 (TK.refl _) (RD.strI (okc_sub ok cut_sub)) m3 w3.2
    · obtain ⟨a, xs, rfl, s, t⟩ := r3
      have tc := cut_rds i j t
      refine .inr (.inl ⟨a, xs, rfl, s, fun z => ?_, fun z q hq => ?_⟩)
      · rw [← t.length] at z
        rw [cut_whole z] at w3
        exact kk _ _ _ M3 (TK.refl _) (RD.tupI s t) m3 w3
      · exact kk _ _ _ M3 (TK.new hq) (RD.tupI (SqT.of upd_same) (RDs.tk (TK.new hq) tc)) (m3.skip hq) w3
    · cases r3
      obtain ⟨xs, e1, w3⟩ := w3
      obtain ⟨us, h, t⟩ := m3 _ _ e1
      exact .inr (.inr ⟨_, us, rfl, SqL.of h, fun q hq => kk _ _ _ _ (TK.new hq) RD.obI (m3.new hq (RO.lstI upd_same (RDs.tk (TK.new hq) (cut_rds i j t)))) (w3 q (m3.none hq))⟩)
    · exact w3.elim
end
end QL

namespace QL
open PySem PySem.Spec PyProof.Rows L2

/-! ### promises over data -/
abbrev SpD := List D → Mp → KD → XKD → Prop
def lsp (K : PySem.W.Frag) (sp : SpD) : Sp := fun vs H Q E => ∃ ds M Q' E', RDs K H ds vs ∧ RM K H M ∧ sp ds M Q' E' ∧ (∀ v H' d M', TK H H' → RD K H' d v → RM K H' M' → Q' d M' → Q v H') ∧
  (∀ x c od H' M', TK H H' → XR K H' x c od → RM K H' M' → E' x M' → E c od H')
abbrev FnD (P : Program) (w : World) (K : PySem.W.Frag) (mg : Str → Option Value) (base : Heap) (k : Nat) (f : Addr) (fd : FuncData) (ps : List Str) (sp : SpD) : Prop := FnOk P w K mg base (L2.CX P w) k f fd ps (lsp K sp)
theorem FnD.imp {P : Program} {w : World} {K : PySem.W.Frag} {mg : Str → Option Value} {base : Heap} {k : Nat} {f : Addr} {fd : FuncData} {ps : List Str} {sp sp' : SpD} (F : FnD P w K mg base k f fd ps sp)
    (h : ∀ ds M Q E, sp' ds M Q E → sp ds M Q E) : FnD P w K mg base k f fd ps sp' := FnOk.imp F fun vs H Q E ⟨ds, M, Q', E', a, b, c, d⟩ => ⟨ds, M, Q', E', a, b, h _ _ _ _ c, d⟩
/-- every promise below a level, at once -/
theorem FnD.of_all {ι : Type} [Inhabited ι] {P : Program} {w : World} {K : PySem.W.Frag} {mg : Str → Option Value} {base : Heap} {k : Nat} {f : Addr} {fd : FuncData} {ps : List Str} {sp : ι → SpD} (F : ∀ i, FnD P w K mg base k f fd ps (sp i)) :
    FnD P w K mg base k f fd ps (fun ds M Q E => ∃ i, sp i ds M Q E) :=
  ⟨fun vs H Q E ⟨ds, M, Q', E', a, b, ⟨i, c⟩, d⟩ => (F i).len vs H Q E ⟨ds, M, Q', E', a, b, c, d⟩, fun A outer s H args us vs Q E hr he hb hv ⟨ds, M, Q', E', a, b, ⟨i, c⟩, d⟩ => (F i).run A outer s H args us vs Q E hr he hb hv ⟨ds, M, Q', E', a, b, c, d⟩⟩
/-- what may be forgotten at the end -/
def endR (Q : KD) : KD := fun d M' => ∃ M, Sub M M' ∧ Q d M
def endX (E : XKD) : XD → Env → Mp → Prop := fun x _ M' => ∃ M, Sub M M' ∧ E x M
def dStart (N : List Str) (ds : List D) : Env := ds.map some ++ List.replicate (N.length - ds.length) none
theorem rs_start {K : PySem.W.Frag} {H : Hp} {N : List Str} {ds : List D} {vs : List V} (r : RDs K H ds vs) : RS K H (dStart N ds) (L2.start N vs) := by
  unfold dStart L2.start
  have hl := r.length
  refine ⟨by simp [hl], fun i d e => ?_⟩
  by_cases hi : i < ds.length
  · rw [List.getElem?_append_left (by simpa using hi), List.getElem?_map] at e
    rw [List.getElem?_append_left (by simpa [hl] using (hl ▸ hi)), List.getElem?_map]
    cases q : ds[i]? with
    | none => rw [q] at e; cases e
    | some d' =>
      rw [q] at e
      cases e
      obtain ⟨v, e1, r1⟩ := r.get q
      exact ⟨v, by rw [e1]; rfl, r1⟩
  · rw [List.getElem?_append_right (by simpa using hi), List.getElem?_replicate] at e
    split at e <;> cases e
section
variable {P : Program} {w : World} {K : PySem.W.Frag} {mg : Str → Option Value} {base : Heap}
/-- THE RULE for a def over data -/
theorem fnD_of {x qual : Str} {st : Stmt} {f : Addr} {fd : FuncData} {N ps : List Str} {k : Nat} {sp : SpD} {wb : DS} (F : Fun K x qual st f fd) (S : FnScope N ps (defScope st)) (len : ∀ ds M Q E, sp ds M Q E → ds.length = ps.length)
    (body : ∀ (cdv : Value) (A : Around) (outer : List PySem.Env) (s : Shared) (H : Hp) (E : XK), Room k (A.deeper (envOfC qual (defScope st) s.heap.objs.size f cdv)) →
      QSs (cxOf (L2.CX P w) P w K mg base N qual (defScope st) f cdv A outer s H E) (fun c od _ H => E c od H) (defBody st) wb)
    (go : ∀ (ds : List D) (M : Mp) (Q : KD) (E : XKD), sp ds M Q E → wb { nx := fun _ M' => endR Q .non M', rt := endR Q, xx := endX E } (dStart N ds) M) : FnD P w K mg base (k + 1) f fd ps sp := by
  refine F.okX S (fun vs H Q E h => ?_) (fun cdv A outer s H vs Q E hr h => ?_)
  · obtain ⟨ds, M, Q', E', a, _, c, _⟩ := h
    rw [← a.length]; exact len _ _ _ _ c
  · obtain ⟨ds, M, Q', E', a, b, c, kr, kx⟩ := h
    refine ⟨_, body cdv A outer s H E hr, H, dStart N ds, M, { nx := fun _ M' => endR Q' .non M', rt := endR Q', xx := endX E' }, ⟨TK.refl H, fun x c od σ H' δ M' tk xr rs rm hx => ?_, rs_start a, b⟩, go ds M Q' E' c, ⟨?_, ?_, ?_, ?_⟩⟩
    · obtain ⟨M0, s0, q⟩ := hx
      exact kx x c od H' M0 tk xr (rm.sub s0) q
    · rintro σ H' δ M' tk rs rm ⟨M0, s0, q⟩
      exact kr _ _ _ M0 tk RD.nonI (rm.sub s0) q
    · rintro v H' d M' tk rd rm ⟨M0, s0, q⟩
      exact kr _ _ _ M0 tk rd (rm.sub s0) q
    · rintro σ H' δ M' tk rs rm q; exact q
    · rintro σ H' δ M' tk rs rm q; exact q
end

section
variable {X : Cx} {W : WX} {a b c e o : Expr} {es : List Expr} {wa wb wo : DE} {ws : DA} {pos : Pos}
/-! ### calls of built-in functions and types -/
abbrev D1L := List D → Mp → KD → Prop
def OL (K : PySem.W.Frag) (r : List V → Hp → VK → Prop) (rd : D1L) : Prop := ∀ (xs : List V) (ds : List D) (H : Hp) (M : Mp) (Q : VK) (Q' : KD), RDs K H ds xs → RM K H M → rd ds M Q' →
  (∀ v H' d' M', TK H H' → RD K H' d' v → RM K H' M' → Q' d' M' → Q v H') → r xs H Q
def wApp (rd : D1L) (ws : DA) : DE := fun δ M Q E => ws δ M (fun ds M1 => rd ds M1 Q) E
theorem app_of {K : PySem.W.Frag} {σ : L2.St} {H : Hp} {Q : VK} {r : List V → Hp → VK → Prop} {rd : D1L} (o : OL K r rd) (h : cE K W (wApp rd ws) σ H Q) : tCB r (cA K W ws) σ H Q := by
  obtain ⟨H0, δ, M, Q', XX, p, w, k⟩ := h
  exact ⟨H0, δ, M, _, XX, p, w, fun vs H1 ds M1 k1 r1 m1 w1 => o vs ds H1 M1 Q Q' r1 m1 w1 fun v H' d' M' k2 => k v H' d' M' (k1.trans k2)⟩
theorem qe_callB {id : String} {x : Str} {p : Pos} {r : List V → Hp → VK → Prop} {rd : D1L} (hc : CallR X (.builtin id) r) (o : OL X.K r rd) (hg : Gl X x) (hm : X.mg x = none) (hv : bootBuiltins x = some (.builtin id)) (ha : QA X W (e :: es) ws) (hn : x ≠ "__name__" := by decide +kernel) (hdb : (x == ("__debug__" : Str)) = false := by decide +kernel)
    (he : starEach (e :: es) X.env = (false, eval e X.env) :: starEach es X.env := by rfl) (hpl : (backTo pos (starEach es X.env)).any (·.1) = false := by rfl) : QE X W (.Call (.Name x p) (e :: es) [] pos) (wApp rd ws) :=
  pe_weak (pe_callB hc hg hm hv ha hn hdb he hpl) fun _ _ _ h => app_of o h
theorem qe_callTy {T : String} {x : Str} {p : Pos} {r : List V → Hp → VK → Prop} {rd : D1L} (hc : CallR X (.type T) r) (o : OL X.K r rd) (hg : Gl X x) (hm : X.mg x = none) (hv : bootBuiltins x = some (.type T)) (ha : QA X W (e :: es) ws) (hn : x ≠ "__name__" := by decide +kernel) (hdb : (x == ("__debug__" : Str)) = false := by decide +kernel)
    (he : starEach (e :: es) X.env = (false, eval e X.env) :: starEach es X.env := by rfl) (hpl : (backTo pos (starEach es X.env)).any (·.1) = false := by rfl) : QE X W (.Call (.Name x p) (e :: es) [] pos) (wApp rd ws) :=
  pe_weak (pe_callTy hc hg hm hv ha hn hdb he hpl) fun _ _ _ h => app_of o h
def lenD : D1L := fun ds M Q => match ds with
  | [.str s] => s.length ≤ sizeLine ∧ Q (.int s.length) M
  | [.tup xs] => Q (.int xs.length) M
  | [.fl xs] => Q (.int xs.length) M
  | [.ob a] => onL M a fun xs => Q (.int xs.length) M
  | _ => False
theorem rds1 {K : PySem.W.Frag} {H : Hp} {d : D} {xs : List V} (r : RDs K H [d] xs) : ∃ v, xs = [v] ∧ RD K H d v := by
  obtain ⟨v, vs, rfl, a, b⟩ := r
  cases b
  exact ⟨v, rfl, a⟩
theorem rds2 {K : PySem.W.Frag} {H : Hp} {d e : D} {xs : List V} (r : RDs K H [d, e] xs) : ∃ v u, xs = [v, u] ∧ RD K H d v ∧ RD K H e u := by
  obtain ⟨v, vs, rfl, a, b⟩ := r
  obtain ⟨u, rfl, c⟩ := rds1 b
  exact ⟨v, u, rfl, a, c⟩
theorem ol_len {K : PySem.W.Frag} : OL K (fun xs H Q => ∃ x n, xs = [x] ∧ LenV K x H n ∧ Q (.int n) H) lenD := by
  intro xs ds H M Q Q' r m w k
  unfold lenD at w
  split at w
  · obtain ⟨v, rfl, rfl, _⟩ := rds1 r
    exact ⟨_, _, rfl, ⟨by rw [str_len]; exact w.1, rfl⟩, k _ H _ M (TK.refl H) (by rw [str_len]; exact RD.intI) m w.2⟩
  · obtain ⟨v, rfl, ⟨a, us, rfl, s, t⟩⟩ := rds1 r
    exact ⟨_, _, rfl, .inr ⟨us, s, rfl⟩, k _ H _ M (TK.refl H) (by rw [← t.length]; exact RD.intI) m w⟩
  · obtain ⟨v, rfl, ⟨a, us, rfl, s, t⟩⟩ := rds1 r
    exact ⟨_, _, rfl, .inl ⟨us, s.sq, rfl⟩, k _ H _ M (TK.refl H) (by rw [← t.length]; exact RD.intI) m w⟩
  · obtain ⟨v, rfl, rfl⟩ := rds1 r
    obtain ⟨xs, e1, w⟩ := w
    obtain ⟨us, h, t⟩ := m _ _ e1
    exact ⟨_, _, rfl, .inl ⟨us, SqL.of h, rfl⟩, k _ H _ M (TK.refl H) (by rw [← t.length]; exact RD.intI) m w⟩
  · exact w.elim
theorem boot_len' : bootBuiltins "len" = some (.builtin "len") := PySem.boot_len
theorem qe_len {p : Pos} (hg : Gl X "len") (hm : X.mg "len" = none) (ha : QE X W e wa) (he : starEach [e] X.env = (false, eval e X.env) :: starEach [] X.env := by rfl) : QE X W (.Call (.Name "len" p) [e] [] pos) (wApp lenD (wCons wa wNil)) :=
  qe_callB call_len ol_len hg hm PySem.boot_len (qa_cons ha qa_nil he) (he := he)
def absD : D1L := fun ds M Q => match ds with
  | [.int i] => Q (.int (if i < 0 then -i else i)) M
  | _ => False
theorem ol_abs {K : PySem.W.Frag} : OL K (fun xs H Q => ∃ i, xs = [.int i] ∧ Q (.int (if i < 0 then -i else i)) H) absD := by
  intro xs ds H M Q Q' r m w k
  unfold absD at w
  split at w
  · obtain ⟨v, rfl, rfl⟩ := rds1 r
    exact ⟨_, rfl, k _ H _ M (TK.refl H) RD.intI m w⟩
  · exact w.elim
def maxD : D1L := fun ds M Q => match ds with
  | [.int i, .int j] => Q (.int (max i j)) M
  | _ => False
def minD : D1L := fun ds M Q => match ds with
  | [.int i, .int j] => Q (.int (min i j)) M
  | _ => False
theorem ol_max {K : PySem.W.Frag} : OL K (fun xs H Q => ∃ i j, xs = [.int i, .int j] ∧ Q (.int (if j > i then j else i)) H) maxD := by
  intro xs ds H M Q Q' r m w k
  unfold maxD at w
  split at w
  · obtain ⟨v, u, rfl, rfl, rfl⟩ := rds2 r
    rename_i i j
    have e : (if j > i then j else i) = max i j := by split <;> omega
    exact ⟨_, _, rfl, k _ H _ M (TK.refl H) (by rw [e]; exact RD.intI) m w⟩
  · exact w.elim
theorem ol_min {K : PySem.W.Frag} : OL K (fun xs H Q => ∃ i j, xs = [.int i, .int j] ∧ Q (.int (if j < i then j else i)) H) minD := by
  intro xs ds H M Q Q' r m w k
  unfold minD at w
  split at w
  · obtain ⟨v, u, rfl, rfl, rfl⟩ := rds2 r
    rename_i i j
    have e : (if j < i then j else i) = min i j := by split <;> omega
    exact ⟨_, _, rfl, k _ H _ M (TK.refl H) (by rw [e]; exact RD.intI) m w⟩
  · exact w.elim
/-- int(i), int(b), int(text) -/
def intOf : D1L := fun ds M Q => match ds with
  | [.int i] => Q (.int i) M
  | [.bl b] => Q (.int (if b then 1 else 0)) M
  | [.str s] => s.length ≤ 640 ∧ ∃ n, PySem.intText? ⟨s.toArray⟩ = some n ∧ Q (.int n) M
  | _ => False
def rIntAll : List V → Hp → VK → Prop := fun xs H Q => ((∃ i, xs = [.int i] ∧ Q (.int i) H) ∨ ∃ k, xs = [.bl k] ∧ Q (.int (if k then 1 else 0)) H) ∨ (∃ a n, xs = [.str a] ∧ PySem.intText? a = some n ∧ a.length ≤ 640 ∧ Q (.int n) H)
theorem callr_or {f : Value} {r r' : List V → Hp → VK → Prop} (h : CallR X f r) (h' : CallR X f r') : CallR X f (fun xs H Q => r xs H Q ∨ r' xs H Q) := by
  intro pins s σ H xs us Q I rs q
  rcases q with q | q
  · exact h pins s σ H xs us Q I rs q
  · exact h' pins s σ H xs us Q I rs q
theorem call_intAll : CallR X (.type "int") rIntAll := callr_or call_int1 call_int_str
theorem ol_int {K : PySem.W.Frag} : OL K rIntAll intOf := by
  intro xs ds H M Q Q' r m w k
  unfold intOf at w
  split at w
  · obtain ⟨v, rfl, rfl⟩ := rds1 r
    exact .inl (.inl ⟨_, rfl, k _ H _ M (TK.refl H) RD.intI m w⟩)
  · obtain ⟨v, rfl, rfl⟩ := rds1 r
    exact .inl (.inr ⟨_, rfl, k _ H _ M (TK.refl H) RD.intI m w⟩)
  · obtain ⟨v, rfl, rfl, _⟩ := rds1 r
    obtain ⟨h1, n, h2, w⟩ := w
    exact .inr ⟨_, n, rfl, h2, by rw [str_len]; exact h1, k _ H _ M (TK.refl H) RD.intI m w⟩
  · exact w.elim
/-- str(i), str(text) -/
def strOf : D1L := fun ds M Q => match ds with
  | [.int i] => i.natAbs < 2 ^ 1000 ∧ Q (.str (tx (toString i))) M
  | [.str s] => Q (.str s) M
  | _ => False
def rStrAll : List V → Hp → VK → Prop := fun xs H Q => (∃ i, xs = [.int i] ∧ i.natAbs.log2 < 1920 ∧ Q (.str (toString i)) H) ∨ ∃ a, xs = [.str a] ∧ Q (.str a) H
theorem call_strAll : CallR X (.type "str") rStrAll := callr_or call_str_int SkE.call_str_str
theorem log_small {n : Nat} (h : n < 2 ^ 1000) : n.log2 < 1920 := by
  by_cases z : n = 0
  · subst z; decide
  · have := (Nat.log2_lt z).mpr h
    omega
theorem ol_str {K : PySem.W.Frag} : OL K rStrAll strOf := by
  intro xs ds H M Q Q' r m w k
  unfold strOf at w
  split at w
  · obtain ⟨v, rfl, rfl⟩ := rds1 r
    refine .inl ⟨_, rfl, log_small w.1, k _ H _ M (TK.refl H) ?_ m w.2⟩
    rw [str_of]; exact RD.strI (okc_tx _)
  · obtain ⟨v, rfl, rfl, ok⟩ := rds1 r
    exact .inr ⟨_, rfl, k _ H _ M (TK.refl H) (RD.strI ok) m w⟩
  · exact w.elim

/-! ### methods of built-in types -/
abbrev DMt := D → List D → Mp → KD → Prop
def OM (K : PySem.W.Frag) (r : V → List V → Hp → VK → Prop) (rd : DMt) : Prop := ∀ (x : V) (xs : List V) (d : D) (ds : List D) (H : Hp) (M : Mp) (Q : VK) (Q' : KD), RD K H d x → RDs K H ds xs → RM K H M → rd d ds M Q' →
  (∀ v H' d' M', TK H H' → RD K H' d' v → RM K H' M' → Q' d' M' → Q v H') → r x xs H Q
/-- of that type -/
def isTy (T : String) (d : D) (M : Mp) : Prop := match d with
  | .str _ => T = "str"
  | .ob a => (T = "list" ∧ ∃ xs, M a = some (.lst xs)) ∨ (T = "dict" ∧ ((∃ kvs, M a = some (.dic kvs)) ∨ ∃ kvs, M a = some (.dit kvs)))
  | _ => False
theorem isTy_list {a : Addr} {M : Mp} : isTy "list" (.ob a) M = ∃ xs, M a = some (.lst xs) := by
  apply propext
  refine ⟨fun h => ?_, fun h => .inl ⟨rfl, h⟩⟩
  rcases h with ⟨_, h⟩ | ⟨h, _⟩
  · exact h
  · exact absurd h (by decide)
theorem isTy_str {s : Tx} {M : Mp} : isTy "str" (.str s) M = True := eq_true rfl
theorem isTy_dict {a : Addr} {M : Mp} : isTy "dict" (.ob a) M = ((∃ kvs, M a = some (.dic kvs)) ∨ ∃ kvs, M a = some (.dit kvs)) := by
  apply propext
  refine ⟨fun h => ?_, fun h => .inr ⟨rfl, h⟩⟩
  rcases h with ⟨h, _⟩ | ⟨_, h⟩
  · exact absurd h (by decide)
  · exact h
theorem tyV_of {K : PySem.W.Frag} {H : Hp} {M : Mp} {T : String} {d : D} {x : V} (r : RD K H d x) (m : RM K H M) (h : isTy T d M) : tyV K T x H := by
  unfold isTy at h
  split at h
  · obtain ⟨rfl, _⟩ := r; exact h
  · cases r
    rcases h with ⟨rfl, xs, e⟩ | ⟨rfl, ⟨xs, e⟩ | ⟨xs, e⟩⟩
    · obtain ⟨us, h, t⟩ := m _ _ e
      exact .inl ⟨rfl, us, SqL.of h⟩
    · obtain ⟨us, h, t⟩ := m _ _ e
      exact .inr (.inr (.inl ⟨rfl, .inl ⟨us, h⟩⟩))
    · obtain ⟨us, h, t⟩ := m _ _ e
      exact .inr (.inr (.inl ⟨rfl, .inr ⟨us, h⟩⟩))
  · exact h.elim
def wBM (T : String) (rd : DMt) (wo : DE) (ws : DA) : DE := fun δ M Q E => wo δ M (fun d M1 => isTy T d M1 ∧ ws δ M1 (fun ds M2 => rd d ds M2 Q) E) E
def wBM0 (T : String) (rd : DMt) (wo : DE) : DE := fun δ M Q E => wo δ M (fun d M1 => isTy T d M1 ∧ rd d [] M1 Q) E
theorem qe_bm {T id : String} {name : Str} {apos : Pos} {r : V → List V → Hp → VK → Prop} {rd : DMt} (pa : PlainAttrs T) (slot : Slot T name id) (hty : typeOf (.builtin id) = pure (.type "method_descriptor")) (hm : MtR X id r) (om : OM X.K r rd) (ho : QE X W o wo) (ha : QA X W (e :: es) ws)
    (hbase : attributeBase o name X.env (eval o X.env) = eval o X.env := by rfl)
    (hfew : ((backTo pos (starEach (e :: es) X.env)).all (fun x => !x.1) && (backToKw pos (keywordEach [] X.env)).all (fun x => x.1.isSome)
      && decide ((e :: es).length + ([] : List Keyword).length + (if ([] : List Keyword).isEmpty then 0 else 1) < 30)) = true := by rfl)
    (hline : (apos.endLine == pos.line) = true := by rfl) (hs : starEach (e :: es) X.env = (false, eval e X.env) :: starEach es X.env := by rfl) (hplain : (backTo pos (starEach es X.env)).any (·.1) = false := by rfl) :
    QE X W (.Call (.Attribute o name apos) (e :: es) [] pos) (wBM T rd wo ws) :=
  pe_weak (pe_bm pa slot hty hm ho ha hbase hfew hline hs hplain) fun σ H Q ⟨H0, δ, M, Q', XX, p, w, k⟩ => ⟨H0, δ, M, _, XX, p, w, fun x H1 d M1 k1 r1 m1 w1 => ⟨tyV_of r1 m1 w1.1, H0, δ, M1, _, XX, p.step k1 m1, w1.2, fun xs H2 ds M2 k2 r2 m2 w2 =>
    om x xs d ds H2 M2 Q Q' (RD.tk k2 r1) r2 m2 w2 fun v H' d' M' k3 => k v H' d' M' (k1.trans (k2.trans k3))⟩⟩
theorem qe_bm0 {T id : String} {name : Str} {apos : Pos} {r : V → List V → Hp → VK → Prop} {rd : DMt} (pa : PlainAttrs T) (slot : Slot T name id) (hty : typeOf (.builtin id) = pure (.type "method_descriptor")) (hm : MtR X id r) (om : OM X.K r rd) (ho : QE X W o wo)
    (hbase : attributeBase o name X.env (eval o X.env) = eval o X.env := by rfl) (hline : (apos.endLine == pos.line) = true := by rfl) : QE X W (.Call (.Attribute o name apos) [] [] pos) (wBM0 T rd wo) :=
  pe_weak (pe_bm0 pa slot hty hm ho hbase hline) fun σ H Q ⟨H0, δ, M, Q', XX, p, w, k⟩ => ⟨H0, δ, M, _, XX, p, w, fun x H1 d M1 k1 r1 m1 w1 => ⟨tyV_of r1 m1 w1.1,
    om x [] d [] H1 M1 Q Q' r1 rfl m1 w1.2 fun v H' d' M' k2 => k v H' d' M' (k1.trans k2)⟩⟩
def appendD : DMt := fun d ds M Q => match d, ds with
  | .ob a, [x] => onL M a fun xs => xs.length < sizeLine ∧ Q .non (upm M a (.lst (xs ++ [x])))
  | _, _ => False
theorem notPerm_lst {xs : List V} : ¬ Perm (.lst xs) := fun z => z
theorem om_append {K : PySem.W.Frag} : OM K rAppend appendD := by
  intro x xs d ds H M Q Q' r1 r2 m w k
  unfold appendD at w
  split at w
  · cases r1
    obtain ⟨v, rfl, rv⟩ := rds1 r2
    obtain ⟨ys, e1, w⟩ := w
    obtain ⟨us, h, t⟩ := m _ _ e1
    have kp := TK.put (o := .lst (us ++ [v])) h notPerm_lst
    refine ⟨_, us, v, rfl, rfl, h, by rw [← t.length]; exact w.1, ?_⟩
    exact k _ _ _ _ kp RD.nonI (m.put h notPerm_lst (RO.lstI upd_same (RDs.tk kp (t.append (RDs.oneI rv))))) w.2
  · exact w.elim
theorem qe_append {apos : Pos} (ho : QE X W o wo) (ha : QE X W e wa) (he : starEach [e] X.env = (false, eval e X.env) :: starEach [] X.env := by rfl) (hbase : attributeBase o "append" X.env (eval o X.env) = eval o X.env := by rfl)
    (hfew : ((backTo pos (starEach [e] X.env)).all (fun x => !x.1) && (backToKw pos (keywordEach [] X.env)).all (fun x => x.1.isSome)
      && decide ([e].length + ([] : List Keyword).length + (if ([] : List Keyword).isEmpty then 0 else 1) < 30)) = true := by rfl)
    (hline : (apos.endLine == pos.line) = true := by rfl) : QE X W (.Call (.Attribute o "append" apos) [e] [] pos) (wBM "list" appendD wo (wCons wa wNil)) :=
  qe_bm PySem.F.plainAttrs_list PySem.F.slot_list_append PySem.F.type_list_append mt_append om_append ho (qa_cons ha qa_nil he) hbase hfew hline he
def extendD : DMt := fun d ds M Q => match d, ds with
  | .ob a, [.ob b] => onL M a fun xs => onL M b fun ys => xs.length + ys.length ≤ sizeLine ∧ Q .non (upm M a (.lst (xs ++ ys)))
  | _, _ => False
theorem om_extend {K : PySem.W.Frag} : OM K rExtend extendD := by
  intro x xs d ds H M Q Q' r1 r2 m w k
  unfold extendD at w
  split at w
  · cases r1
    obtain ⟨v, rfl, rv⟩ := rds1 r2
    cases rv
    obtain ⟨ys, e1, zs, e2, w⟩ := w
    obtain ⟨us, h, t⟩ := m _ _ e1
    obtain ⟨vs, h2, t2⟩ := m _ _ e2
    have kp := TK.put (o := .lst (us ++ vs)) h notPerm_lst
    refine ⟨_, _, us, vs, rfl, rfl, h, h2, by rw [← t.length, ← t2.length]; exact w.1, ?_⟩
    exact k _ _ _ _ kp RD.nonI (m.put h notPerm_lst (RO.lstI upd_same (RDs.tk kp (t.append t2)))) w.2
  · exact w.elim
theorem qe_extend {apos : Pos} (ho : QE X W o wo) (ha : QE X W e wa) (he : starEach [e] X.env = (false, eval e X.env) :: starEach [] X.env := by rfl) (hbase : attributeBase o "extend" X.env (eval o X.env) = eval o X.env := by rfl)
    (hfew : ((backTo pos (starEach [e] X.env)).all (fun x => !x.1) && (backToKw pos (keywordEach [] X.env)).all (fun x => x.1.isSome)
      && decide ([e].length + ([] : List Keyword).length + (if ([] : List Keyword).isEmpty then 0 else 1) < 30)) = true := by rfl)
    (hline : (apos.endLine == pos.line) = true := by rfl) : QE X W (.Call (.Attribute o "extend" apos) [e] [] pos) (wBM "list" extendD wo (wCons wa wNil)) :=
  qe_bm PySem.F.plainAttrs_list PySem.F.slot_list_extend PySem.F.type_list_extend mt_extend om_extend ho (qa_cons ha qa_nil he) hbase hfew hline he

/-! ### calls of defs -/
variable {k : Nat} {f C : Addr} {fd : FuncData} {ps : List Str} {sp : SpD} {x m : Str} {p apos : Pos}
def wCall (sp : SpD) (ws : DA) : DE := fun δ M Q E => ws δ M (fun ds M1 => sp ds M1 Q E) E
theorem call_of {σ : L2.St} {K : PySem.W.Frag} {H : Hp} {Q : VK} (h : cE K W (wCall sp ws) σ H Q) : tCallSD (lsp K sp) [] (WE W) (cA K W ws) σ H Q := by
  obtain ⟨H0, δ, M, Q', XX, p, w, kk⟩ := h
  refine ⟨H0, δ, M, _, XX, p, w, fun vs H1 ds M1 k1 r1 m1 w1 => ?_⟩
  show lsp K sp (vs ++ []) H1 Q (WE W σ)
  rw [List.append_nil]
  exact ⟨ds, M1, Q', _, r1, m1, w1, fun v H' d M' k2 => kk v H' d M' (k1.trans k2), fun x c od H' M' k2 xr m' q => p.lf x c od σ H' δ M' (p.tk.trans (k1.trans k2)) xr (p.rs.tk (k1.trans k2)) m' q⟩
theorem qe_call (tk : Takes X W) (F : FnD X.prog X.w X.K X.mg X.base k f fd ps sp) (hr : Room k X.A) (hg : Gl X x) (hm : X.mg x = some (.ref f)) (hk : PySem.W.keepIn X.K (.ref f) = true) (hb : Binds X.K fd ps [])
    (ha : QA X W (e :: es) ws) (hdb : (x == ("__debug__" : Str)) = false := by decide +kernel) (he : starEach (e :: es) X.env = (false, eval e X.env) :: starEach es X.env := by rfl) (hpl : (backTo pos (starEach es X.env)).any (·.1) = false := by rfl) :
    QE X W (.Call (.Name x p) (e :: es) [] pos) (wCall sp ws) :=
  pe_weak (pe_callSD F hr hg hm hk hb .nil (fun σ => passAt tk σ) ha hdb he hpl) fun _ _ _ h => call_of h
/-- o.m(..): the receiver is an instance of C -/
def wMeth (C : Addr) (m : Str) (sp : SpD) (wo : DE) (ws : DA) : DE := fun δ M Q E => wo δ M (fun d M1 => ∃ a fs, d = .ob a ∧ M1 a = some (.ins C fs) ∧ fs.lookup m = none ∧ ws δ M1 (fun ds M2 => sp (d :: ds) M2 Q E) E) E
def tMethS (C : Addr) (m : Str) (sp : Sp) (E : L2.St → XK) (ta : TE) (t : TA) : TE := fun σ H Q => ta σ H fun x H1 => ∃ a dx fs, x = .ref a ∧ H1 a = some (.ins C dx fs) ∧ fs.lookup m = none ∧
  t σ H1 fun vs H2 => sp (x :: vs) H2 Q (E σ)
theorem pe_methS' {CX : CXT} {sp : Sp} {ta : TE} {t : TA} {E : L2.St → XK} {pl : Sem Bool} (he : PE X o ta) (c : Cls X.K C) (hm : Meth X.K C m f) (F : FnOk X.prog X.w X.K X.mg X.base CX k f fd ps sp) (hr : Room k X.A) (hb : Binds X.K fd ps []) (hx : ∀ σ, PassesAt CX X σ (E σ)) (ha : PA X (e :: es) t)
    (hst : starEach (e :: es) X.env = (false, eval e X.env) :: starEach es X.env := by rfl) (hpl : (backTo pos (starEach es X.env)).any (·.1) = false := by rfl)
    (ht : eval (.Call (.Attribute o m apos) (e :: es) [] pos) X.env = (do
      let ov ← eval o X.env
      standAt apos.atName
      let (f, first) ← holding [ov] (getMethod ov m pl)
      callWith pos f first (backTo pos (starEach (e :: es) X.env)) (backToKw pos (keywordEach [] X.env))) := by rfl) :
    PE X (.Call (.Attribute o m apos) (e :: es) [] pos) (tMethS C m sp E ta t) := by
  refine ⟨fun pins s σ H Q I h => ?_⟩
  refine PySem.W.methodCall_KW (pl := pl) (thn (he.run pins s σ H _ I h) fun u s1 ⟨x, H1, I1, rx, a, dx, fs, ex, ea, l, q⟩ => ?_) ht
  subst ex
  obtain rfl : u = Value.ref a := rx
  refine getmeth_ok I1 ea c hm l ?_
  refine PySem.W.callWith_K (first := [.ref a]) (h₀ := X.base) I.ok.mod.kin hm.kp (thn (ha.run pos pins s1 σ H1 _ I1 q) fun us s2 ⟨vs, H2, I2, r, q2⟩ => ⟨I2.kIn, ?_⟩) hst hpl
  exact run_fnSD (us := .ref a :: us) (vs := .ref a :: vs) (dvs := []) F hr hb .nil (hx σ) I2 (.cons rfl r) (by rw [List.append_nil]; exact q2)
theorem pe_methS0' {CX : CXT} {sp : Sp} {ta : TE} {E : L2.St → XK} {pl : Sem Bool} (he : PE X o ta) (c : Cls X.K C) (hm : Meth X.K C m f) (F : FnOk X.prog X.w X.K X.mg X.base CX k f fd ps sp) (hr : Room k X.A) (hb : Binds X.K fd ps []) (hx : ∀ σ, PassesAt CX X σ (E σ))
    (ht : eval (.Call (.Attribute o m apos) [] [] pos) X.env = (do
      let ov ← eval o X.env
      standAt apos.atName
      let (f, first) ← holding [ov] (getMethod ov m pl)
      callWith pos f first (backTo pos (starEach [] X.env)) (backToKw pos (keywordEach [] X.env))) := by rfl) :
    PE X (.Call (.Attribute o m apos) [] [] pos) (tMethS C m sp E ta tNil) := by
  refine ⟨fun pins s σ H Q I h => ?_⟩
  refine PySem.W.methodCall_KW (pl := pl) (thn (he.run pins s σ H _ I h) fun u s1 ⟨x, H1, I1, rx, a, dx, fs, ex, ea, l, q⟩ => ?_) ht
  subst ex
  obtain rfl : u = Value.ref a := rx
  refine getmeth_ok I1 ea c hm l ?_
  exact PySem.W.callWith_K0 (first := [.ref a]) I1.kIn hm.kp (run_fnSD (us := [.ref a]) (vs := [.ref a]) (dvs := []) F hr hb .nil (hx σ) I1 (.cons rfl .nil) (by rw [List.append_nil]; exact q))
theorem meth_of {σ : L2.St} {K : PySem.W.Frag} {H : Hp} {Q : VK} (h : cE K W (wMeth C m sp wo ws) σ H Q) : tMethS C m (lsp K sp) (WE W) (cE K W wo) (cA K W ws) σ H Q := by
  obtain ⟨H0, δ, M, Q', XX, p, w, kk⟩ := h
  refine ⟨H0, δ, M, _, XX, p, w, fun v H1 d M1 k1 r1 m1 w1 => ?_⟩
  obtain ⟨a, fs, rfl, ea, l, w1⟩ := w1
  obtain ⟨dx, gs, e1, t1⟩ := m1 _ _ ea
  refine ⟨a, dx, gs, r1, e1, t1.lookup_none l, H0, δ, M1, _, XX, p.step k1 m1, w1, fun vs H2 ds M2 k2 r2 m2 w2 => ?_⟩
  exact ⟨.ob a :: ds, M2, Q', _, ⟨v, vs, rfl, r1, r2⟩, m2, w2, fun v H' d M' k3 => kk v H' d M' (k1.trans (k2.trans k3)), fun x c od H' M' k3 xr m' q => p.lf x c od σ H' δ M' (p.tk.trans (k1.trans (k2.trans k3))) xr (p.rs.tk (k1.trans (k2.trans k3))) m' q⟩
theorem qe_meth (pl : Sem Bool) (tk : Takes X W) (ho : QE X W o wo) (c : Cls X.K C) (hm : Meth X.K C m f) (F : FnD X.prog X.w X.K X.mg X.base k f fd ps sp) (hr : Room k X.A) (hb : Binds X.K fd ps []) (ha : QA X W (e :: es) ws)
    (hst : starEach (e :: es) X.env = (false, eval e X.env) :: starEach es X.env := by rfl) (hpl : (backTo pos (starEach es X.env)).any (·.1) = false := by rfl)
    (ht : eval (.Call (.Attribute o m apos) (e :: es) [] pos) X.env = (do
      let ov ← eval o X.env
      standAt apos.atName
      let (f, first) ← holding [ov] (getMethod ov m pl)
      callWith pos f first (backTo pos (starEach (e :: es) X.env)) (backToKw pos (keywordEach [] X.env))) := by rfl) : QE X W (.Call (.Attribute o m apos) (e :: es) [] pos) (wMeth C m sp wo ws) :=
  pe_weak (pe_methS' (pl := pl) ho c hm F hr hb (fun σ => passAt tk σ) ha hst hpl ht) fun _ _ _ h => meth_of h
theorem qe_meth0 (pl : Sem Bool) (tk : Takes X W) (ho : QE X W o wo) (c : Cls X.K C) (hm : Meth X.K C m f) (F : FnD X.prog X.w X.K X.mg X.base k f fd ps sp) (hr : Room k X.A) (hb : Binds X.K fd ps [])
    (ht : eval (.Call (.Attribute o m apos) [] [] pos) X.env = (do
      let ov ← eval o X.env
      standAt apos.atName
      let (f, first) ← holding [ov] (getMethod ov m pl)
      callWith pos f first (backTo pos (starEach [] X.env)) (backToKw pos (keywordEach [] X.env))) := by rfl) : QE X W (.Call (.Attribute o m apos) [] [] pos) (wMeth C m sp wo wNil) :=
  pe_weak (pe_methS0' (pl := pl) ho c hm F hr hb (fun σ => passAt tk σ) ht) fun σ H Q h => by
    obtain ⟨H0, δ, M, Q', XX, p, w, kk⟩ := h
    refine ⟨H0, δ, M, _, XX, p, w, fun v H1 d M1 k1 r1 m1 w1 => ?_⟩
    obtain ⟨a, fs, rfl, ea, l, w1⟩ := w1
    obtain ⟨dx, gs, e1, t1⟩ := m1 _ _ ea
    exact ⟨a, dx, gs, r1, e1, t1.lookup_none l, [.ob a], M1, Q', _, ⟨v, [], rfl, r1, rfl⟩, m1, w1, fun v H' d M' k3 => kk v H' d M' (k1.trans k3), fun x c od H' M' k3 xr m' q => p.lf x c od σ H' δ M' (p.tk.trans (k1.trans k3)) xr (p.rs.tk (k1.trans k3)) m' q⟩
/-! ### C(..) -/
def wMake (C : Addr) (sp : SpD) (ws : DA) : DE := fun δ M Q E => ws δ M (fun ds M1 => ∀ q, M1 q = none → sp (.ob q :: ds) (upm M1 q (.ins C [])) (fun d M2 => d = .non ∧ Q (.ob q) M2) E) E
theorem make_of {σ : L2.St} {K : PySem.W.Frag} {H : Hp} {Q : VK} {vs : List V} {ds : List D} {H0 H1 : Hp} {δ : Env} {M M1 : Mp} {XX : XD → Env → Mp → Prop} {Q' : KD} (p : Pre K W H0 σ H δ M XX) (k1 : TK H H1) (r1 : RDs K H1 ds vs) (m1 : RM K H1 M1)
    (kk : ∀ v H' d M', TK H H' → RD K H' d v → RM K H' M' → Q' d M' → Q v H') (w1 : ∀ q, M1 q = none → sp (.ob q :: ds) (upm M1 q (.ins C [])) (fun d M2 => d = .non ∧ Q' (.ob q) M2) (fun x M => XX x δ M)) :
    ∀ x dx, H1 x = none → H1 dx = none → dx ≠ x → lsp K sp (.ref x :: vs) (upd (upd H1 dx (.own x)) x (.ins C dx [])) (fun v H2 => v = .non ∧ Q (.ref x) H2) (WE W σ) := by
  intro x dx nx ndx ne
  have nx' : upd H1 dx (.own x) x = none := by rw [upd_ne (Ne.symm ne)]; exact nx
  have t1 : TK H1 (upd H1 dx (.own x)) := TK.new ndx
  have t2 : TK (upd H1 dx (.own x)) (upd (upd H1 dx (.own x)) x (.ins C dx [])) := TK.new nx'
  have m2 : RM K (upd H1 dx (.own x)) M1 := m1.skip ndx
  have m3 := m2.new (o := .ins C dx []) (m := .ins C []) nx' (RO.insI (gs := []) upd_same rfl)
  refine ⟨.ob x :: ds, _, _, _, ⟨.ref x, vs, rfl, RD.obI, RDs.tk (t1.trans t2) r1⟩, m3, w1 x (m1.none nx), fun v H' d M' k2 rd m' q => ?_, fun x c od H' M' k2 xr m' q => ?_⟩
  · obtain ⟨rfl, q⟩ := q
    exact ⟨rd, kk _ _ _ _ (k1.trans (t1.trans (t2.trans k2))) RD.obI m' q⟩
  · exact p.lf x c od σ H' δ M' (p.tk.trans (k1.trans (t1.trans (t2.trans k2)))) xr (p.rs.tk (k1.trans (t1.trans (t2.trans k2)))) m' q
def tMakeS (C : Addr) (sp : Sp) (E : L2.St → XK) (t : TA) : TE := fun σ H Q => t σ H fun vs H1 => ∀ x dx, H1 x = none → H1 dx = none → dx ≠ x →
  sp (.ref x :: vs) (upd (upd H1 dx (.own x)) x (.ins C dx [])) (fun v H2 => v = .non ∧ Q (.ref x) H2) (E σ)
theorem run_makeS {CX : CXT} {sp : Sp} {E : XK} {pins : List (Addr × Obj)} {σ : L2.St} {H : Hp} {s : Shared} {Q : VK} {us : List Value} {vs : List V} (M : Mk X.K C f) (F : FnOk X.prog X.w X.K X.mg X.base CX k f fd ps sp) (hr : Room (k + 1) X.A) (hb : Binds X.K fd ps [])
    (hx : PassesAt CX X σ E) (I : Inv X pins σ H s) (r : Vals vs us)
    (h : ∀ x dx, H x = none → H dx = none → dx ≠ x → sp (.ref x :: vs) (upd (upd H dx (.own x)) x (.ins C dx [])) (fun v H2 => v = .non ∧ Q (.ref x) H2) E) :
    wpAny (model X.prog X.w) X.A (call (.ref C) us) (EP X pins σ Q) X.xe s := by
  have hq := h (s.heap.objs.size + 1) s.heap.objs.size (I.hok.fresh (Nat.le_succ _)) (I.hok.fresh (Nat.le_refl _)) (Nat.ne_of_lt (Nat.lt_succ_self _))
  have I2 := Inv.made (C := C) I
  have r2 : Vals (V.ref (s.heap.objs.size + 1) :: vs) (Value.ref (s.heap.objs.size + 1) :: us) := .cons rfl r
  have hl : (Value.ref (s.heap.objs.size + 1) :: us ++ []).length = ps.length := by
    have e := r2.length
    rw [F.len _ _ _ _ hq] at e
    simpa using e.symm
  have bb := hb _ (Value.ref (s.heap.objs.size + 1) :: us) I2.kIn hl
  rw [List.append_nil] at bb
  refine wpAny_call (make_map (f := f) I.kIn M.makes M.init (beq_iff_eq.mp M.fn) (codeAny_mono (F.run _ X.stack _ _ ⟨Value.ref (s.heap.objs.size + 1) :: us, []⟩ (Value.ref (s.heap.objs.size + 1) :: us) _ _ E (hr.make C us [])
    (I2.env0.make C us []) bb r2 hq) fun r s' hq' => ?_))
  cases r with
  | error e => exact hx pins _ _ e s' I2 hq'
  | ok fl =>
    cases fl with
    | ret u =>
      obtain ⟨v, H', I3, rv, ev, q3⟩ := I2.after hq'
      subst ev
      exact ⟨rv, ⟨V.ref (s.heap.objs.size + 1), H', I3, rfl, q3⟩⟩
    | next => exact False.elim hq'
    | brk => exact False.elim hq'
    | cont => exact False.elim hq'
theorem qe_make (tk : Takes X W) (Mm : Mk X.K C f) (F : FnD X.prog X.w X.K X.mg X.base k f fd ps sp) (hr : Room (k + 1) X.A) (hg : Gl X x) (hm : X.mg x = some (.ref C)) (hb : Binds X.K fd ps [])
    (ha : QA X W (e :: es) ws) (hdb : (x == ("__debug__" : Str)) = false := by decide +kernel) (he : starEach (e :: es) X.env = (false, eval e X.env) :: starEach es X.env := by rfl) (hpl : (backTo pos (starEach es X.env)).any (·.1) = false := by rfl) :
    QE X W (.Call (.Name x p) (e :: es) [] pos) (wMake C sp ws) := by
  refine ⟨fun pins s σ H Q I h => ?_⟩
  obtain ⟨H0, δ, M, Q', XX, p, w, kk⟩ := h
  refine wpAny_Call_Name_kw (ld_glob I hg hm ?_ hdb)
  refine PySem.W.callWith_K (h₀ := X.base) I.ok.mod.kin Mm.kp (thn (ha.run pos pins s σ H (fun vs H1 => ∀ x dx, H1 x = none → H1 dx = none → dx ≠ x → lsp X.K sp (.ref x :: vs) (upd (upd H1 dx (.own x)) x (.ins C dx [])) (fun v H2 => v = .non ∧ Q (.ref x) H2) (WE W σ)) I
    ⟨H0, δ, M, _, XX, p, w, fun vs H1 ds M1 k1 r1 m1 w1 => make_of p k1 r1 m1 kk w1⟩) fun us s1 ⟨vs, H1, I1, r, q⟩ => ⟨I1.kIn, ?_⟩) he hpl
  exact run_makeS Mm F hr hb (passAt tk σ) I1 r q
theorem qe_make0 (tk : Takes X W) (Mm : Mk X.K C f) (F : FnD X.prog X.w X.K X.mg X.base k f fd ps sp) (hr : Room (k + 1) X.A) (hg : Gl X x) (hm : X.mg x = some (.ref C)) (hb : Binds X.K fd ps [])
    (hdb : (x == ("__debug__" : Str)) = false := by decide +kernel) : QE X W (.Call (.Name x p) [] [] pos) (wMake C sp wNil) := by
  refine ⟨fun pins s σ H Q I h => ?_⟩
  obtain ⟨H0, δ, M, Q', XX, p, w, kk⟩ := h
  refine wpAny_Call_Name_kw (ld_glob I hg hm ?_ hdb)
  exact PySem.W.callWith_K0 I.kIn Mm.kp (run_makeS (us := []) Mm F hr hb (passAt tk σ) I .nil (make_of (ds := []) p (TK.refl H) rfl p.rm kk w))
/-! ### e.f -/
def onI (M : Mp) (a : Addr) (k : Addr → List (Str × D) → Prop) : Prop := ∃ C fs, M a = some (.ins C fs) ∧ k C fs
def wFld (C : Addr) (f : Str) (wo : DE) : DE := fun δ M Q E => wo δ M (fun d M1 => ∃ a fs x, d = .ob a ∧ M1 a = some (.ins C fs) ∧ fs.lookup f = some x ∧ Q x M1) E
theorem qe_fld {f : Str} (ho : QE X W e wo) (c : Cls X.K C) (n : NoAttr X.K C f) (hb : attributeBase e f X.env (eval e X.env) = eval e X.env := by rfl) : QE X W (.Attribute e f pos) (wFld C f wo) :=
  pe_weak (pe_fld ho hb) fun σ H Q ⟨H0, δ, M, Q', XX, p, w, k⟩ => ⟨H0, δ, M, _, XX, p, w, fun v H1 d M1 k1 r1 m1 w1 => by
    obtain ⟨a, fs, y, rfl, ea, l, q⟩ := w1
    obtain ⟨dx, gs, e1, t1⟩ := m1 _ _ ea
    obtain ⟨u, l2, ru⟩ := t1.lookup l
    exact ⟨a, C, dx, gs, u, r1, e1, c, n, l2, k u H1 y M1 k1 ru m1 q⟩⟩
end
end QL

namespace QL
open PySem PySem.Spec PyProof.Rows L2

section
variable {X : Cx} {W : WX} {a b c e o : Expr} {es : List Expr} {wa wb wo : DE} {ws : DA} {tc : DT} {pos : Pos} {st : Stmt} {sts : List Stmt} {w1 w2 : DS}
/-! ### blocks -/
def wNext : DS := fun D δ M => D.nx δ M
def wSeq (w1 w2 : DS) : DS := fun D δ M => w1 { D with nx := w2 D } δ M
theorem qss_nil : QSs X W [] wNext := pss_weak pss_nil fun D σ H ⟨H0, δ, M, D', p, w, le⟩ => le.nx σ H δ M (TK.refl H) p.rs p.rm w
theorem qss_cons (h1 : QS X W st w1) (h2 : QSs X W sts w2) : QSs X W (st :: sts) (wSeq w1 w2) :=
  pss_weak (pss_cons h1 h2) fun D σ H ⟨H0, δ, M, D', p, w, le⟩ => ⟨H0, δ, M, { D' with nx := w2 D' }, ⟨p.tk, p.lf, p.rs, p.rm⟩, w, ⟨fun σ' H' δ' M' k rs rm q => ⟨H0, δ', M', D', ⟨p.tk.trans k, p.lf, rs, rm⟩, q, le.tk k⟩, le.rt, le.bk, le.ct⟩⟩
theorem qss_one (h1 : QS X W st w1) : QSs X W [st] w1 := pss_one h1
/-- nothing of what follows is reached -/
def wStop : DS := fun _ _ _ => False
theorem qss_stop : QSs X W sts wStop := pss_weak pss_never fun D σ H ⟨H0, δ, M, D', p, w, le⟩ => w
theorem qs_pass : QS X W (.Pass pos) wNext := ps_weak ps_pass fun D σ H ⟨H0, δ, M, D', p, w, le⟩ => le.nx σ H δ M (TK.refl H) p.rs p.rm w
def wBrk : DS := fun D δ M => D.bk δ M
def wCnt : DS := fun D δ M => D.ct δ M
theorem qs_break : QS X W (.Break pos) wBrk := ps_weak ps_break fun D σ H ⟨H0, δ, M, D', p, w, le⟩ => le.bk σ H δ M (TK.refl H) p.rs p.rm w
theorem qs_continue : QS X W (.Continue pos) wCnt := ps_weak ps_continue fun D σ H ⟨H0, δ, M, D', p, w, le⟩ => le.ct σ H δ M (TK.refl H) p.rs p.rm w
def wEx (we : DE) : DS := fun D δ M => we δ M (fun _ M1 => D.nx δ M1) (fun x M => D.xx x δ M)
theorem qs_expr (he : QE X W e wa) (hs : swapsWith e none pos.line X.env = pure false := by rfl) : QS X W (.Expr e pos) (wEx wa) :=
  ps_weak (ps_expr he hs) fun D σ H ⟨H0, δ, M, D', p, w, le⟩ => ⟨H0, δ, M, _, D'.xx, p, w, fun v H' d M' k rd rm q => le.nx σ H' δ M' k (p.rs.tk k) rm q⟩
def wRet (we : DE) : DS := fun D δ M => we δ M D.rt (fun x M => D.xx x δ M)
theorem qs_ret (he : QE X W e wa) : QS X W (.Return (some e) pos) (wRet wa) :=
  ps_weak (ps_ret he) fun D σ H ⟨H0, δ, M, D', p, w, le⟩ => ⟨H0, δ, M, _, D'.xx, p, w, fun v H' d M' k rd rm q => le.rt v H' d M' k rd rm q⟩
def wRetN : DS := fun D _ M => D.rt .non M
theorem qs_retN : QS X W (.Return none pos) wRetN := ps_weak ps_retN fun D σ H ⟨H0, δ, M, D', p, w, le⟩ => le.rt .non H .non M (TK.refl H) RD.nonI p.rm w
def wIfS (t : DT) (w1 w2 : DS) : DS := fun D δ M => t δ M (fun b M1 => if b = true then w1 D δ M1 else w2 D δ M1) (fun x M => D.xx x δ M)
theorem qs_if {sts2 : List Stmt} (hc : QT X W c tc) (h1 : QSs X W sts w1) (h2 : QSs X W sts2 w2) : QS X W (.If c sts sts2 pos) (wIfS tc w1 w2) :=
  ps_weak (ps_if hc h1 h2) fun D σ H ⟨H0, δ, M, D', p, w, le⟩ => ⟨H0, δ, M, _, D'.xx, p, w, fun b H' M' k rm q => by
    cases b with
    | true =>
      rw [if_pos rfl] at q ⊢
      exact ⟨H0, δ, M', D', p.step k rm, q, le.tk k⟩
    | false =>
      rw [if_neg Bool.false_ne_true] at q ⊢
      exact ⟨H0, δ, M', D', p.step k rm, q, le.tk k⟩⟩
/-! ### targets -/
abbrev DG := D → Env → Mp → (Env → Mp → Prop) → Prop
abbrev DGs := List D → Env → Mp → (Env → Mp → Prop) → Prop
/-- vs: the slots that a target stores to -/
def cG (K : PySem.W.Frag) (vs : List Nat) (w : DG) : TG := fun v σ H Q => ∃ δ M d Q', RS K H δ σ ∧ RM K H M ∧ RD K H d v ∧ w d δ M Q' ∧ ∀ σ' H' δ' M', TK H H' → RS K H' δ' σ' → RM K H' M' → wipe σ' vs = wipe σ vs → Q' δ' M' → Q σ' H'
def cGs (K : PySem.W.Frag) (vs : List Nat) (w : DGs) : TGs := fun us σ H Q => ∃ δ M ds Q', RS K H δ σ ∧ RM K H M ∧ RDs K H ds us ∧ w ds δ M Q' ∧ ∀ σ' H' δ' M', TK H H' → RS K H' δ' σ' → RM K H' M' → wipe σ' vs = wipe σ vs → Q' δ' M' → Q σ' H'
abbrev QG (X : Cx) (vs : List Nat) (e : Expr) (w : DG) : Prop := PG X e (cG X.K vs w)
abbrev QGs (X : Cx) (vs : List Nat) (es : List Expr) (w : DGs) : Prop := PGs X es (cGs X.K vs w)
theorem wipe_set {σ : L2.St} {i : Nat} {o : Option V} : ∀ {vs : List Nat}, i ∈ vs → wipe (σ.set i o) vs = wipe σ vs
  | [], h => by cases h
  | v :: vs, h => by
    show (wipe (σ.set i o) vs).set v none = (wipe σ vs).set v none
    by_cases hv : i ∈ vs
    · rw [wipe_set hv]
    · have e : i = v := by simpa [hv] using h
      subst e
      have z : ∀ (l : List Nat), i ∉ l → wipe (σ.set i o) l = (wipe σ l).set i o := by
        intro l
        induction l with
        | nil => intro _; rfl
        | cons a l ih =>
          intro hl
          have h1 : i ≠ a := fun e => hl (by simp [e])
          have h2 : i ∉ l := fun e => hl (by simp [e])
          show (wipe (σ.set i o) l).set a none = ((wipe σ l).set a none).set i o
          rw [ih h2, List.set_comm _ _ h1]
      rw [z vs hv, List.set_set]
theorem pg_weak {e : Expr} {t t' : TG} (h : PG X e t) (k : ∀ v σ H Q, t' v σ H Q → t v σ H Q) : PG X e t' := ⟨fun pins s σ H v u Q I r q => h.run pins s σ H v u Q I r (k _ _ _ _ q)⟩
theorem pgs_weak {e : List Expr} {t t' : TGs} (h : PGs X e t) (k : ∀ v σ H Q, t' v σ H Q → t v σ H Q) : PGs X e t' := ⟨fun pins s σ H v u Q I r q => h.run pins s σ H v u Q I r (k _ _ _ _ q)⟩
def gN (i : Nat) : DG := fun d δ M Q => Q (δ.set i (some d)) M
theorem qg_name {vs : List Nat} (i : Nat) {x : Str} (hN : X.N.Nodup) (hi : X.N[i]? = some x := by rfl) (hx : Loc X.env.scope x := by first | exact Or.inl rfl | exact Or.inr rfl) (hf : X.fn x = true ∨ X.env.scope.names.lookup x = some .local := by first | exact .inl rfl | exact .inr rfl | assumption) (hv : i ∈ vs := by decide) : QG X vs (.Name x pos) (gN i) :=
  pg_weak (pg_name hN hi hx hf) fun v σ H Q ⟨δ, M, d, Q', rs, rm, rd, w, k⟩ => k _ H _ M (TK.refl H) (rs.set i rd) rm (wipe_set hv) w
def gsN : DGs := fun ds δ M Q => ds = [] ∧ Q δ M
def gsC (t : DG) (u : DGs) : DGs := fun ds δ M Q => match ds with
  | d :: r => t d δ M fun δ' M' => u r δ' M' Q
  | [] => False
theorem qgs_nil {vs : List Nat} : QGs X vs [] gsN := pgs_weak pgs_nil fun v σ H Q ⟨δ, M, ds, Q', rs, rm, rd, w, k⟩ => by
  obtain ⟨rfl, w⟩ := w
  cases rd
  exact ⟨rfl, k _ _ _ _ (TK.refl H) rs rm rfl w⟩
theorem qgs_cons {vs : List Nat} {t : DG} {u : DGs} (h1 : QG X vs e t) (h2 : QGs X vs es u) (hs : (assignEach (e :: es) X.env).map (·.2) = assign e X.env :: (assignEach es X.env).map (·.2) := by rfl) : QGs X vs (e :: es) (gsC t u) :=
  pgs_weak (pgs_cons h1 h2 hs) fun v σ H Q ⟨δ, M, ds, Q', rs, rm, rd, w, k⟩ => by
    cases ds with
    | nil => exact w.elim
    | cons d ds =>
      obtain ⟨x, xs, rfl, r1, r2⟩ := rd
      exact ⟨x, xs, rfl, δ, M, d, _, rs, rm, r1, w, fun σ' H' δ' M' k1 rs1 rm1 z1 q => ⟨δ', M', ds, Q', rs1, rm1, RDs.tk k1 r2, q, fun σ2 H2 δ2 M2 k2 rs2 rm2 z2 => k σ2 H2 δ2 M2 (k1.trans k2) rs2 rm2 (z2.trans z1)⟩⟩
def gT (t : DGs) : DG := fun d δ M Q => match d with
  | .tup xs => t xs δ M Q
  | _ => False
theorem qg_tup {vs : List Nat} {k : Nat} {t : DGs} {n : Nat} (hc : X.calm = true) (h : QGs X vs es t) (hl : ∀ ds δ M Q, t ds δ M Q → ds.length = n) (hn : (assignEach es X.env).length = n := by rfl) (hst : (assignEach es X.env).findIdx? (·.1) = none := by rfl) : QG X vs (.Tuple es k pos) (gT t) :=
  pg_weak (pg_tup hc h hn hst) fun v σ H Q ⟨δ, M, d, Q', rs, rm, rd, w, kk⟩ => by
    cases d with
    | tup ds =>
      obtain ⟨p, xs, rfl, s, r⟩ := rd
      exact ⟨p, xs, rfl, s, by rw [← r.length]; exact hl _ _ _ _ w, δ, M, ds, Q', rs, rm, r, w, kk⟩
    | _ => exact w.elim
theorem gs_len0 : ∀ ds δ M Q, gsN ds δ M Q → ds.length = 0 := fun ds δ M Q h => by rw [h.1]; rfl
/-- a target list's length -/
structure QGn (X : Cx) (vs : List Nat) (es : List Expr) (t : DGs) (n : Nat) : Prop where
  q : QGs X vs es t
  len : ∀ ds δ M (Q : Env → Mp → Prop), t ds δ M Q → ds.length = n
theorem qgn_nil {vs : List Nat} : QGn X vs [] gsN 0 := ⟨qgs_nil, gs_len0⟩
theorem gN_ok {i : Nat} {d : D} {δ : Env} {M : Mp} {Q : Env → Mp → Prop} (h : gN i d δ M Q) : Q (δ.set i (some d)) M := h
def DG.Lo (t : DG) : Prop := ∀ d δ M (Q : Env → Mp → Prop), t d δ M Q → ∃ δ' M', Q δ' M'
theorem gN_lo {i : Nat} : DG.Lo (gN i) := fun d δ M Q h => ⟨_, _, h⟩
theorem qgn_cons {vs : List Nat} {t : DG} {u : DGs} {n : Nat} (h1 : QG X vs e t) (lo : DG.Lo t) (h2 : QGn X vs es u n) (hs : (assignEach (e :: es) X.env).map (·.2) = assign e X.env :: (assignEach es X.env).map (·.2) := by rfl) : QGn X vs (e :: es) (gsC t u) (n + 1) :=
  ⟨qgs_cons h1 h2.q hs, fun ds δ M Q h => by
    cases ds with
    | nil => exact h.elim
    | cons d ds =>
      obtain ⟨δ', M', q⟩ := lo _ _ _ _ h
      simp [h2.len _ _ _ _ q]⟩
def DGs.Lo (t : DGs) : Prop := ∀ ds δ M (Q : Env → Mp → Prop), t ds δ M Q → ∃ δ' M', Q δ' M'
theorem gsN_lo : DGs.Lo gsN := fun ds δ M Q h => ⟨_, _, h.2⟩
theorem gsC_lo {t : DG} {u : DGs} (a : DG.Lo t) (b : DGs.Lo u) : DGs.Lo (gsC t u) := fun ds δ M Q h => by
  cases ds with
  | nil => exact h.elim
  | cons d ds =>
    obtain ⟨δ', M', q⟩ := a _ _ _ _ h
    exact b _ _ _ _ q
theorem gT_lo {t : DGs} (a : DGs.Lo t) : DG.Lo (gT t) := fun d δ M Q h => by
  cases d with
  | tup xs => exact a _ _ _ _ h
  | _ => exact h.elim
theorem qg_tupn {vs : List Nat} {k : Nat} {t : DGs} {n : Nat} (hc : X.calm = true) (h : QGn X vs es t n) (hn : (assignEach es X.env).length = n := by rfl) (hst : (assignEach es X.env).findIdx? (·.1) = none := by rfl) : QG X vs (.Tuple es k pos) (gT t) := qg_tup hc h.q h.len hn hst
def wAsg (we : DE) (g : DG) : DS := fun D δ M => we δ M (fun d M1 => g d δ M1 D.nx) (fun x M => D.xx x δ M)
theorem asg_of {K : PySem.W.Frag} {vs : List Nat} {g : DG} {D : Ends} {σ : L2.St} {H : Hp} (h : cS K W (wAsg wa g) D σ H) : tAsg (cE K W wa) (cG K vs g) D σ H := by
  obtain ⟨H0, δ, M, D', p, w, le⟩ := h
  exact ⟨H0, δ, M, _, D'.xx, p, w, fun v H' d M' k rd rm q => ⟨δ, M', d, _, p.rs.tk k, rm, rd, q, fun σ2 H2 δ2 M2 k2 rs2 rm2 _ q2 => le.nx σ2 H2 δ2 M2 (k.trans k2) rs2 rm2 q2⟩⟩
theorem qs_asg (vs : List Nat) {tg : Expr} {g : DG} (he : QE X W e wa) (hg : QG X vs tg g) (hs : swapsWithSole [tg] e pos.line X.env = pure false := by rfl) (hw : swappedStores [tg] e X.env = pure none := by rfl)
    (h1 : (assignEach [tg] X.env).map (·.2) = [assign tg X.env] := by rfl) : QS X W (.Assign [tg] e pos) (wAsg wa g) := ps_weak (ps_asg he hg hs hw h1) fun _ _ _ h => asg_of h
theorem qs_set (i : Nat) {x : Str} {pos' : Pos} (hN : X.N.Nodup) (he : QE X W e wa) (hi : X.N[i]? = some x := by rfl) (hx : Loc X.env.scope x := by first | exact Or.inl rfl | exact Or.inr rfl) (hs : swapsWith e (some (.Name x pos')) pos.line X.env = pure false := by rfl) (hf : X.fn x = true ∨ X.env.scope.names.lookup x = some .local := by first | exact .inl rfl | exact .inr rfl | assumption) :
    QS X W (.Assign [.Name x pos'] e pos) (wAsg wa (gN i)) :=
  ps_weak (ps_set hN hi hx he hs hf) fun D σ H ⟨H0, δ, M, D', p, w, le⟩ => ⟨H0, δ, M, _, D'.xx, p, w, fun v H' d M' k rd rm q => le.nx _ H' _ M' k ((p.rs.tk k).set i rd) rm q⟩
/-- name op= e -/
def wAug (i : Nat) (rd : D2) (we : DE) : DS := fun D δ M => onS δ[i]? fun d => we δ M (fun e M1 => rd d e M1 fun z M2 => D.nx (δ.set i (some z)) M2) (fun x M => D.xx x δ M)
theorem qs_aug (i : Nat) {x : Str} {op : Operator} {ti : TIp} {rd : D2} {pos' : Pos} (hN : X.N.Nodup) (he : QE X W e wa) (ho : PIp X op ti) (o2 : O2 X.K ti rd) (hi : X.N[i]? = some x := by rfl) (hx : Loc X.env.scope x := by first | exact Or.inl rfl | exact Or.inr rfl) (hf : X.fn x = true ∨ X.env.scope.names.lookup x = some .local := by first | exact .inl rfl | exact .inr rfl | assumption) :
    QS X W (.AugAssign (.Name x pos') op e pos) (wAug i rd wa) :=
  ps_weak (ps_aug hN hi hx he ho hf) fun D σ H ⟨H0, δ, M, D', p, w, le⟩ => by
    obtain ⟨d, ed, w⟩ := onS_ex w
    obtain ⟨v, ev, rv⟩ := p.rs.2 i d ed
    exact ⟨v, ev, H0, δ, M, _, D'.xx, p, w, fun u H' e' M' k rd' rm q => o2 v u d e' H' M' _ _ (RD.tk k rv) rd' rm q fun z H2 dz M2 k2 rz rm2 q2 => le.nx _ H2 _ M2 (k.trans k2) ((p.rs.tk (k.trans k2)).set i rz) rm2 q2⟩
abbrev iaddD : D2 := int0D fun i j => .int (i + j)
abbrev isubD : D2 := int0D fun i j => .int (i - j)
theorem o2_iadd {K : PySem.W.Frag} : O2 K (ipI fun i j => i + j) iaddD := o2_int0 (g := fun i j => V.int (i + j)) fun _ _ _ => RD.intI
theorem o2_isub {K : PySem.W.Frag} : O2 K (ipI fun i j => i - j) isubD := o2_int0 (g := fun i j => V.int (i - j)) fun _ _ _ => RD.intI
/-- o.f = e -/
def wSetF (C : Addr) (f : Str) (wo we : DE) : DS := fun D δ M => we δ M (fun y M1 => wo δ M1 (fun d M2 => ∃ a fs, d = .ob a ∧ M2 a = some (.ins C fs) ∧ fs.length < 1000 ∧ D.nx δ (upm M2 a (.ins C (putD f y fs)))) (fun x M => D.xx x δ M)) (fun x M => D.xx x δ M)
theorem notPerm_ins {C dx : Addr} {fs : List (Str × V)} : ¬ Perm (.ins C dx fs) := fun z => z
theorem qs_fld {C : Addr} {f : Str} {pos' : Pos} (ho : QE X W o wo) (he : QE X W e wa) (c : Cls X.K C) (n : NoAttr X.K C f) (hs : swapsWith e (some (.Attribute o f pos')) pos.line X.env = pure false := by rfl) : QS X W (.Assign [.Attribute o f pos'] e pos) (wSetF C f wo wa) :=
  ps_weak (ps_fld ho he hs) fun D σ H ⟨H0, δ, M, D', p, w, le⟩ => ⟨H0, δ, M, _, D'.xx, p, w, fun v H1 d M1 k1 r1 m1 w1 => ⟨H0, δ, M1, _, D'.xx, p.step k1 m1, w1, fun u H2 d2 M2 k2 r2 m2 w2 => by
    obtain ⟨a, fs, rfl, ea, hl, q⟩ := w2
    obtain ⟨dx, gs, e1, t1⟩ := m2 _ _ ea
    have kp := TK.put (o := .ins C dx (putF f v gs)) e1 notPerm_ins
    exact ⟨a, C, dx, gs, r2, e1, c, n, by rw [← t1.length]; exact hl, le.nx _ _ _ _ (k1.trans (k2.trans kp)) (p.rs.tk (k1.trans (k2.trans kp))) (m2.put e1 notPerm_ins (RO.insI upd_same ((t1.put (RD.tk k2 r1)).tk kp))) q⟩⟩⟩
/-- o.f op= e -/
def wAugF (C : Addr) (f : Str) (rd : D2) (wo we : DE) : DS := fun D δ M => wo δ M (fun d M1 => ∃ a fs y, d = .ob a ∧ M1 a = some (.ins C fs) ∧ fs.lookup f = some y ∧ we δ M1 (fun e M2 => rd y e M2 fun z M3 => ∃ fs', M3 a = some (.ins C fs') ∧ fs'.length < 1000 ∧ D.nx δ (upm M3 a (.ins C (putD f z fs')))) (fun x M => D.xx x δ M)) (fun x M => D.xx x δ M)
theorem qs_fldaug {C : Addr} {f : Str} {tpos : Pos} {op : Operator} {r : V → V → Hp → VK → Prop} {rd : D2} (ho : QE X W o wo) (he : QE X W e wa) (hop : InOp X op r) (o2 : O2 X.K r rd) (c : Cls X.K C) (n : NoAttr X.K C f) : QS X W (.AugAssign (.Attribute o f tpos) op e pos) (wAugF C f rd wo wa) :=
  ps_weak (ps_fldaug ho he hop) fun D σ H ⟨H0, δ, M, D', p, w, le⟩ => ⟨H0, δ, M, _, D'.xx, p, w, fun v H1 d M1 k1 r1 m1 w1 => by
    obtain ⟨a, fs, y, rfl, ea, l, w1⟩ := w1
    obtain ⟨dx, gs, e1, t1⟩ := m1 _ _ ea
    obtain ⟨u, l2, ru⟩ := t1.lookup l
    refine ⟨a, C, dx, gs, u, r1, e1, c, n, l2, H0, δ, M1, _, D'.xx, p.step k1 m1, w1, fun v2 H2 d2 M2 k2 r2 m2 w2 => ?_⟩
    refine o2 u v2 y d2 H2 M2 _ _ (RD.tk k2 ru) r2 m2 w2 fun z H3 dz M3 k3 rz m3 q => ?_
    obtain ⟨fs', ea', hl, q⟩ := q
    obtain ⟨dx', gs', e3, t3⟩ := m3 _ _ ea'
    have kp := TK.put (o := .ins C dx' (putF f z gs')) e3 notPerm_ins
    exact ⟨dx', gs', e3, by rw [← t3.length]; exact hl, le.nx _ _ _ _ (k1.trans (k2.trans (k3.trans kp))) (p.rs.tk (k1.trans (k2.trans (k3.trans kp)))) (m3.put e3 notPerm_ins (RO.insI upd_same ((t3.put rz).tk kp))) q⟩⟩
theorem o2_raddI {K : PySem.W.Frag} : O2 K rAdd iaddD := o2_int0 (g := fun i j => V.int (i + j)) fun _ _ _ => RD.intI
theorem o2_rsubI {K : PySem.W.Frag} : O2 K rSub isubD := o2_int0 (g := fun i j => V.int (i - j)) fun _ _ _ => RD.intI
/-- o[i] = e, o a list -/
def wSetL (wo wi we : DE) : DS := fun D δ M => we δ M (fun y M1 => wo δ M1 (fun d M2 => wi δ M2 (fun i M3 => ∃ a xs k j, d = .ob a ∧ i = .int k ∧ M3 a = some (.lst xs) ∧ ixN xs.length k = some j ∧ D.nx δ (upm M3 a (.lst (xs.set j y)))) (fun x M => D.xx x δ M)) (fun x M => D.xx x δ M)) (fun x M => D.xx x δ M)
theorem qs_setL {i : Expr} {wi : DE} {pos' : Pos} (ho : QE X W o wo) (hi : QE X W i wi) (he : QE X W e wa)
    (ha : ∀ v, assign (.Subscript o i pos') X.env v = (do
      let ov ← holding [v] (eval o X.env)
      let iv ← holding [v, ov] (eval i X.env)
      standAt pos'
      holding [v, ov, iv] (setItem ov iv v)
      release [v, ov, iv] []) := by intro _; rfl)
    (hs : swapsWithSole [.Subscript o i pos'] e pos.line X.env = pure false := by rfl) (hw : swappedStores [.Subscript o i pos'] e X.env = pure none := by rfl)
    (h1 : (assignEach [.Subscript o i pos'] X.env).map (·.2) = [assign (.Subscript o i pos') X.env] := by rfl) : QS X W (.Assign [.Subscript o i pos'] e pos) (wSetL wo wi wa) :=
  ps_weak (ps_asg he (pg_sub ho hi set_list ha) hs hw h1) fun D σ H ⟨H0, δ, M, D', p, w, le⟩ => ⟨H0, δ, M, _, D'.xx, p, w, fun v H1 d M1 k1 r1 m1 w1 => ⟨H0, δ, M1, _, D'.xx, p.step k1 m1, w1, fun vo H2 dO M2 k2 r2 m2 w2 => ⟨H0, δ, M2, _, D'.xx, (p.step k1 m1).step k2 m2, w2, fun vi H3 di M3 k3 r3 m3 w3 => by
    obtain ⟨a, xs, k, j, rfl, rfl, ea, hj, q⟩ := w3
    cases r2
    cases r3
    obtain ⟨us, e1, t1⟩ := m3 _ _ ea
    have kp := TK.put (o := .lst (us.set j v)) e1 notPerm_lst
    exact ⟨a, us, k, j, rfl, rfl, e1, by rw [← t1.length]; exact hj, le.nx _ _ _ _ (k1.trans (k2.trans (k3.trans kp))) (p.rs.tk (k1.trans (k2.trans (k3.trans kp)))) (m3.put e1 notPerm_lst (RO.lstI upd_same (RDs.tk kp (RDs.set (RD.tk (k2.trans k3) r1) j t1)))) q⟩⟩⟩⟩
/-! ### raise -/
def wRaise (C : Addr) : DS := fun D δ M => D.xx ⟨C, []⟩ δ M
theorem qs_raise {bmB : List Value} {B newId initId : String} {C : Addr} {x m : Str} {j : Nat} {p p2 cp : Pos} (hc : X.calm = true) (tk : Takes X W) (F : ExcBaseFacts B newId initId bmB) (q : PySem.W.excIn X.K C bmB newId = true) (gC : X.mg x = some (.ref C)) (kC : PySem.W.keepIn X.K (.ref C) = true) (r : Raises X (.ref C)) (hg : Gl X x)
    (hdb : (x == ("__debug__" : Str)) = false := by decide +kernel) : QS X W (.Raise (some (.Call (.Name x p) [.Constant (.str m) j p2] [] cp)) none pos) (wRaise C) :=
  ps_weak (ps_raise hc tk (pmk_own F q gC kC r hg hdb)) fun D σ H ⟨H0, δ, M, D', p, w, le⟩ => p.lf ⟨C, []⟩ (.ref C) none σ H δ M p.tk ⟨rfl, .inl ⟨rfl, rfl⟩⟩ p.rs p.rm w
/-! ### while -/
def wWhile (t : DT) (wb : DS) : DS := fun D δ M => ∃ I : Nat → Env → Mp → Prop, (∃ m, I m δ M) ∧ ∀ m δ M, I m δ M → t δ M (fun b M1 => if b = true then
  wb { D with nx := fun δ' M' => ∃ m', m' < m ∧ I m' δ' M', ct := fun δ' M' => ∃ m', m' < m ∧ I m' δ' M', bk := D.nx } δ M1 else D.nx δ M1) (fun x M => D.xx x δ M)
theorem qs_while (hp : PassesOwn (model X.prog X.w) X.A X.env X.xe) (hc : QT X W c tc) (hb : QSs X W sts w1) : QS X W (.While c sts [] pos) (wWhile tc w1) :=
  ps_weak (ps_while hp hc hb) fun D σ H ⟨H0, δ, M, D', p, w, le⟩ => by
    obtain ⟨I, ⟨m, i0⟩, turn⟩ := w
    refine ⟨fun m σ' H' => ∃ δ' M', TK H H' ∧ RS X.K H' δ' σ' ∧ RM X.K H' M' ∧ I m δ' M', ⟨m, δ, M, TK.refl H, p.rs, p.rm, i0⟩, ?_⟩
    rintro m σ1 H1 ⟨δ1, M1, k1, rs1, rm1, i1⟩
    refine ⟨H0, δ1, M1, _, D'.xx, ⟨p.tk.trans k1, p.lf, rs1, rm1⟩, turn m δ1 M1 i1, fun b H2 M2 k2 rm2 q => ?_⟩
    cases b with
    | true =>
      rw [if_pos rfl] at q ⊢
      refine ⟨fun σ' H' => ∃ m', m' < m ∧ ∃ δ' M', TK H H' ∧ RS X.K H' δ' σ' ∧ RM X.K H' M' ∧ I m' δ' M', fun σ' H' z => z, ?_⟩
      refine ⟨H0, δ1, M2, { D' with nx := fun δ' M' => ∃ m', m' < m ∧ I m' δ' M', ct := fun δ' M' => ∃ m', m' < m ∧ I m' δ' M', bk := D'.nx }, ⟨p.tk.trans (k1.trans k2), p.lf, rs1.tk k2, rm2⟩, q, ⟨?_, ?_, ?_, ?_⟩⟩
      · rintro σ' H' δ' M' k3 rs3 rm3 ⟨m', hm, i'⟩
        exact ⟨m', hm, δ', M', k1.trans (k2.trans k3), rs3, rm3, i'⟩
      · exact (le.tk (k1.trans k2)).rt
      · exact (le.tk (k1.trans k2)).nx
      · rintro σ' H' δ' M' k3 rs3 rm3 ⟨m', hm, i'⟩
        exact ⟨m', hm, δ', M', k1.trans (k2.trans k3), rs3, rm3, i'⟩
    | false =>
      rw [if_neg Bool.false_ne_true] at q ⊢
      exact (le.tk k1).nx _ _ _ _ k2 (rs1.tk k2) rm2 q
/-! ### for -/
structure DIt where
  xs : List D
  G : Mp → Prop
structure WalkD (K : PySem.W.Frag) (H : Hp) (J : It) (it : DIt) : Prop where
  goes : ∀ i H' M', TK H H' → RM K H' M' → it.G M' → i < it.xs.length → J.go i H'
  stops : ∀ H' M', TK H H' → RM K H' M' → it.G M' → J.stop it.xs.length H'
  yields : ∀ i x H' H'' M', TK H H' → RM K H' M' → it.G M' → i < it.xs.length → J.yld i H' x H'' → ∃ d, it.xs[i]? = some d ∧ TK H' H'' ∧ RD K H'' d x ∧ RM K H'' M'
abbrev DI := Env → Mp → (DIt → Mp → Prop) → XKD → Prop
def cI (K : PySem.W.Frag) (W : WX) (w : DI) : TI := fun σ H R => ∃ H0 δ M R' XX, Pre K W H0 σ H δ M XX ∧ w δ M R' (fun x M => XX x δ M) ∧
  ∀ J H' it M', TK H H' → RM K H' M' → WalkD K H' J it → R' it M' → R J H'
abbrev QI (X : Cx) (W : WX) (tg e : Expr) (w : DI) : Prop := PI X tg e (cI X.K W w)
theorem pi_weak {tg e : Expr} {t t' : TI} (h : PI X tg e t) (k : ∀ σ H Q, t' σ H Q → t σ H Q) : PI X tg e t' := ⟨fun pins s σ H R I q => h.run pins s σ H R I (k _ _ _ q)⟩
/-- what a for asks of the rest, once its items are known -/
def ForOk (it : DIt) (g : DG) (wb : DS) (D : DEnds) (δ : Env) (M : Mp) : Prop := ∃ I : Nat → Env → Mp → Prop, I 0 δ M ∧ (∀ i δ M, i ≤ it.xs.length → I i δ M → it.G M) ∧
  (∀ i d δ M, it.xs[i]? = some d → I i δ M → g d δ M fun δ2 M2 => wb { D with nx := I (i + 1), ct := I (i + 1), bk := D.nx } δ2 M2) ∧ ∀ δ M, I it.xs.length δ M → D.nx δ M
def wFor (wi : DI) (g : DG) (wb : DS) : DS := fun D δ M => wi δ M (fun it M1 => ForOk it g wb D δ M1) (fun x M => D.xx x δ M)
theorem for_list {xs : List D} {G : Mp → Prop} {g : DG} {wb : DS} {D : DEnds} {δ : Env} {M : Mp} (I : Nat → Env → Mp → Prop) (h0 : I 0 δ M) (hG : ∀ i δ M, i ≤ xs.length → I i δ M → G M)
    (hs : ∀ i d δ M, xs[i]? = some d → I i δ M → g d δ M fun δ2 M2 => wb { D with nx := I (i + 1), ct := I (i + 1), bk := D.nx } δ2 M2) (hd : ∀ δ M, I xs.length δ M → D.nx δ M) : ForOk ⟨xs, G⟩ g wb D δ M := ⟨I, h0, hG, hs, hd⟩
theorem for_rng {lo : Int} {n : Nat} {g : DG} {wb : DS} {D : DEnds} {δ : Env} {M : Mp} (I : Nat → Env → Mp → Prop) (h0 : I 0 δ M)
    (hs : ∀ (i : Nat) δ M, i < n → I i δ M → g (.int (lo + i)) δ M fun δ2 M2 => wb { D with nx := I (i + 1), ct := I (i + 1), bk := D.nx } δ2 M2) (hd : ∀ δ M, I n δ M → D.nx δ M) : ForOk ⟨(List.range n).map fun (i : Nat) => QL.D.int (lo + i), fun _ => True⟩ g wb D δ M := by
  refine ⟨I, h0, fun _ _ _ _ _ => trivial, fun i d δ M hd h => ?_, fun δ M h => hd δ M (by simpa using h)⟩
  have hi : i < n := by
    have := (List.getElem?_eq_some_iff.mp hd).1
    simpa using this
  have e : ((List.range n).map fun (i : Nat) => QL.D.int (lo + i))[i]? = some (.int (lo + i)) := by simp [List.getElem?_range hi]
  have hd' : ((List.range n).map fun (i : Nat) => QL.D.int (lo + i))[i]? = some d := hd
  rw [e] at hd'
  cases hd'
  exact hs i δ M hi h
theorem qs_for (vs : List Nat) {tg iter : Expr} {wi : DI} {g : DG} (hp : PassesOwn (model X.prog X.w) X.A X.env X.xe) (hc : X.calm = true) (hi : QI X W tg iter wi) (hg : QG X vs tg g) (hb : QSs X W sts w1)
    (hs : ∀ x, foldedSetIterable iter X.env x = pure x := by intro _; rfl) : QS X W (.For tg iter sts [] pos) (wFor wi g w1) :=
  ps_weak (ps_for hp hc hi hg hb hs) fun D σ H ⟨H0, δ, M, D', p, w, le⟩ => by
    refine ⟨H0, δ, M, _, D'.xx, p, w, fun J H1 it M1 k1 m1 wk w1 => ?_⟩
    obtain ⟨I, i0, hG, turn, fin⟩ := w1
    refine ⟨fun i m σ' H' => m = it.xs.length - i ∧ i ≤ it.xs.length ∧ ∃ δ' M', TK H1 H' ∧ RS X.K H' δ' σ' ∧ RM X.K H' M' ∧ I i δ' M', ⟨_, rfl, Nat.zero_le _, δ, M1, TK.refl H1, p.rs.tk k1, m1, i0⟩, ?_⟩
    rintro i m σ2 H2 ⟨rfl, hi, δ2, M2, k2, rs2, m2, i2⟩
    have g2 := hG i δ2 M2 hi i2
    by_cases hlt : i < it.xs.length
    · refine .inr ⟨wk.goes i H2 M2 k2 m2 g2 hlt, fun σ' H' => ∃ m', m' < it.xs.length - i ∧ (m' = it.xs.length - (i + 1) ∧ i + 1 ≤ it.xs.length ∧ ∃ δ' M', TK H1 H' ∧ RS X.K H' δ' σ' ∧ RM X.K H' M' ∧ I (i + 1) δ' M'), fun σ' H' z => z, fun x H3 y => ?_⟩
      obtain ⟨d, hd, k3, rd, m3⟩ := wk.yields i x H2 H3 M2 k2 m2 g2 hlt y
      refine ⟨δ2, M2, d, _, rs2.tk k3, m3, rd, turn i d δ2 M2 hd i2, fun σ4 H4 δ4 M4 k4 rs4 m4 _ q => ?_⟩
      have kk := k1.trans (k2.trans (k3.trans k4))
      refine ⟨H0, δ4, M4, { D' with nx := I (i + 1), ct := I (i + 1), bk := D'.nx }, ⟨p.tk.trans kk, p.lf, rs4, m4⟩, q, ⟨?_, (le.tk kk).rt, (le.tk kk).nx, ?_⟩⟩
      · intro σ5 H5 δ5 M5 k5 rs5 m5 q5
        exact ⟨it.xs.length - (i + 1), by omega, rfl, hlt, δ5, M5, k2.trans (k3.trans (k4.trans k5)), rs5, m5, q5⟩
      · intro σ5 H5 δ5 M5 k5 rs5 m5 q5
        exact ⟨it.xs.length - (i + 1), by omega, rfl, hlt, δ5, M5, k2.trans (k3.trans (k4.trans k5)), rs5, m5, q5⟩
    · have e : i = it.xs.length := by omega
      subst e
      exact .inl ⟨wk.stops H2 M2 k2 m2 g2, (le.tk k1).nx _ _ _ _ k2 rs2 m2 (fin δ2 M2 i2)⟩
/-- a tuple, a list that never changes, a list -/
def wIt (we : DE) : DI := fun δ M R E => we δ M (fun d M1 => match d with
  | .fl xs => R ⟨xs, fun _ => True⟩ M1
  | .ob a => onL M1 a fun xs => R ⟨xs, fun M => M a = some (.lst xs)⟩ M1
  | _ => False) E
theorem qi_list {tg : Expr} (he : QE X W e wa) : QI X W tg e (wIt wa) :=
  pi_weak (pi_list he) fun σ H R ⟨H0, δ, M, R', XX, p, w, k⟩ => ⟨H0, δ, M, _, XX, p, w, fun v H1 d M1 k1 r1 m1 w1 => by
    cases d with
    | fl xs =>
      obtain ⟨a, us, rfl, s, t⟩ := r1
      refine ⟨a, rfl, ⟨us, s.sq⟩, k _ H1 _ M1 k1 m1 ⟨fun i H' M' k2 _ _ hi => ?_, fun H' M' k2 _ _ => ?_, fun i x H' H'' M' k2 m2 _ hi y => ?_⟩ w1⟩
      · exact ⟨us, us[i]'(by rw [← t.length]; exact hi), (s.tk k2).sq, by simp⟩
      · exact ⟨us, (s.tk k2).sq, by rw [← t.length]; exact Nat.le_refl _⟩
      · obtain ⟨rfl, y⟩ := y
        have e := y us (s.tk k2).sq
        obtain ⟨d, hd, rd⟩ := t.getV e
        exact ⟨d, hd, TK.refl _, RD.tk k2 rd, m2⟩
    | ob a =>
      cases r1
      obtain ⟨xs, e1, w1⟩ := w1
      obtain ⟨us, h, t⟩ := m1 _ _ e1
      refine ⟨a, rfl, ⟨us, SqL.of h⟩, k _ H1 _ M1 k1 m1 ⟨fun i H' M' k2 m2 g hi => ?_, fun H' M' k2 m2 g => ?_, fun i x H' H'' M' k2 m2 g hi y => ?_⟩ w1⟩
      · obtain ⟨us', h', t'⟩ := m2 _ _ g
        exact ⟨us', us'[i]'(by rw [← t'.length]; exact hi), SqL.of h', by simp⟩
      · obtain ⟨us', h', t'⟩ := m2 _ _ g
        exact ⟨us', SqL.of h', by rw [← t'.length]; exact Nat.le_refl _⟩
      · obtain ⟨us', h', t'⟩ := m2 _ _ g
        obtain ⟨rfl, y⟩ := y
        have e := y us' (SqL.of h')
        obtain ⟨d, hd, rd⟩ := t'.getV e
        exact ⟨d, hd, TK.refl _, rd, m2⟩
    | _ => exact w1.elim⟩
def wItT (we : DE) : DI := fun δ M R E => we δ M (fun d M1 => match d with
  | .tup xs => R ⟨xs, fun _ => True⟩ M1
  | _ => False) E
theorem qi_tup {tg : Expr} (he : QE X W e wa) : QI X W tg e (wItT wa) :=
  pi_weak (pi_tup he) fun σ H R ⟨H0, δ, M, R', XX, p, w, k⟩ => ⟨H0, δ, M, _, XX, p, w, fun v H1 d M1 k1 r1 m1 w1 => by
    cases d with
    | tup xs =>
      obtain ⟨a, us, rfl, s, t⟩ := r1
      refine ⟨a, rfl, ⟨us, s⟩, k _ H1 _ M1 k1 m1 ⟨fun i H' M' k2 _ _ hi => ?_, fun H' M' k2 _ _ => ?_, fun i x H' H'' M' k2 m2 _ hi y => ?_⟩ w1⟩
      · exact ⟨us, us[i]'(by rw [← t.length]; exact hi), SqT.tk s k2, by simp⟩
      · exact ⟨us, SqT.tk s k2, by rw [← t.length]; exact Nat.le_refl _⟩
      · obtain ⟨rfl, y⟩ := y
        have e := y us (SqT.tk s k2)
        obtain ⟨d, hd, rd⟩ := t.getV e
        exact ⟨d, hd, TK.refl _, RD.tk k2 rd, m2⟩
    | _ => exact w1.elim⟩
abbrev rngD (lo : Int) (n : Nat) : List D := (List.range n).map fun (i : Nat) => .int (lo + i)
theorem walk_rng {K : PySem.W.Frag} {H : Hp} {lo : Int} {n : Nat} : WalkD K H (Itr lo n) ⟨rngD lo n, fun _ => True⟩ :=
  ⟨fun i H' M' _ _ _ hi => by show i < n; simpa [rngD] using hi, fun H' M' _ _ _ => by show n ≤ (rngD lo n).length; simp [rngD], fun i x H' H'' M' _ m _ hi y => by
    obtain ⟨rfl, rfl⟩ := y
    have hi' : i < n := by simpa [rngD] using hi
    exact ⟨.int (lo + i), by simp [rngD, List.getElem?_range hi'], TK.refl _, RD.intI, m⟩⟩
def wRng1 (ws : DA) : DI := fun δ M R E => ws δ M (fun ds M1 => match ds with
  | [.int j] => (-(2 ^ 62) ≤ j ∧ j < 2 ^ 62) ∧ R ⟨rngD 0 j.toNat, fun _ => True⟩ M1
  | _ => False) E
theorem qi_rng1 {tg : Expr} {p : Pos} (hg : Gl X "range") (hm : X.mg "range" = none) (he : QE X W e wa) (hs : starEach [e] X.env = [(false, eval e X.env)] := by rfl) (hs2 : starEach [e] X.env = (false, eval e X.env) :: starEach [] X.env := by rfl) : QI X W tg (.Call (.Name "range" p) [e] [] pos) (wRng1 (wCons wa wNil)) :=
  pi_weak (pi_range1 hg hm (qa_cons he qa_nil hs2) hs) fun σ H R ⟨H0, δ, M, R', XX, p, w, k⟩ => ⟨H0, δ, M, _, XX, p, w, fun vs H1 ds M1 k1 r1 m1 w1 => by
    revert w1
    split
    · intro w1
      obtain ⟨v, rfl, rfl⟩ := rds1 r1
      exact ⟨_, rfl, w1.1.1, w1.1.2, k _ H1 _ M1 k1 m1 walk_rng w1.2⟩
    · intro w1; exact w1.elim⟩
def wRng2 (ws : DA) : DI := fun δ M R E => ws δ M (fun ds M1 => match ds with
  | [.int i, .int j] => (-(2 ^ 62) ≤ i ∧ i < 2 ^ 62 ∧ -(2 ^ 62) ≤ j ∧ j < 2 ^ 62) ∧ R ⟨rngD i (j - i).toNat, fun _ => True⟩ M1
  | _ => False) E
theorem qi_rng2 {tg : Expr} {p : Pos} (hg : Gl X "range") (hm : X.mg "range" = none) (ha : QE X W a wa) (hb : QE X W b wb) (hs : starEach [a, b] X.env = [(false, eval a X.env), (false, eval b X.env)] := by rfl) (hs2 : starEach [b] X.env = [(false, eval b X.env)] := by rfl) (hs3 : starEach [a, b] X.env = (false, eval a X.env) :: starEach [b] X.env := by rfl) (hs4 : starEach [b] X.env = (false, eval b X.env) :: starEach [] X.env := by rfl) : QI X W tg (.Call (.Name "range" p) [a, b] [] pos) (wRng2 (wCons wa (wCons wb wNil))) :=
  pi_weak (pi_range2 hg hm (qa_cons ha (qa_cons hb qa_nil hs4) hs3) hs hs2) fun σ H R ⟨H0, δ, M, R', XX, p, w, k⟩ => ⟨H0, δ, M, _, XX, p, w, fun vs H1 ds M1 k1 r1 m1 w1 => by
    revert w1
    split
    · intro w1
      obtain ⟨v, u, rfl, rfl, rfl⟩ := rds2 r1
      exact ⟨_, _, rfl, w1.1, k _ H1 _ M1 k1 m1 walk_rng w1.2⟩
    · intro w1; exact w1.elim⟩
/-! ### try .. except X: -/
def wTry (h : Addr → Option Bool) (wb ws : DS) : DS := fun D δ M => wb { D with xx := fun x δ' M' => ∃ b, h x.cls = some b ∧ (b = true → ws { D with xx := fun _ _ _ => False } δ' M') ∧ (b = false → D.xx x δ' M') } δ M
theorem qs_try {x : Str} {c : Value} {b₀ : Stmt} {suite : List Stmt} {np pos' : Pos} {h : Addr → Option Bool} (hs : X.stack = X.env :: X.outer) (hf : X.env.frame = some X.env.locals) (hc : Names X x c) (tk : Takes X W)
    (hh : ∀ C b, h C = some b → PySem.W.exmOne X.K (.ref C) c = some b)
    (hb : ∀ (W' : WX) (pn : List (Addr × Obj)) (xe : Value → Shared → Prop), Takes (X.tr pn xe) W' → PassesOwn (model X.prog X.w) X.A X.env xe → QSs (X.tr pn xe) W' sts w1)
    (hsu : ∀ (a : Addr) (oe : Obj) (pn : List (Addr × Obj)), QSs (X.suite a ((a, oe) :: pn)) (fun _ _ _ _ => False) (b₀ :: suite) w2) :
    QS X W (.Try sts [.ExceptHandler (some (.Name x np)) none (b₀ :: suite) pos'] [] [] pos) (wTry h w1 w2) :=
  ps_weak (ps_try_only (tb := fun W' => cS X.K W' w1) (ts := fun _ _ _ => cS X.K (fun _ _ _ _ => False) w2) hs hf hc tk hb (fun a oe cls d pn _ _ => hsu a oe pn)) fun D σ H ⟨H0, δ, M, D', p, w, le⟩ => by
    refine ⟨H, δ, M, _, ⟨TK.refl H, fun x u od σ' H' δ' M' k xr rs rm q => ?_, p.rs, p.rm⟩, w, ⟨le.nx, le.rt, le.bk, le.ct⟩⟩
    obtain ⟨b, hb', hy, hn⟩ := q
    refine ⟨b, by rw [xr.1]; exact hh _ _ hb', fun e a na => ?_, fun e => p.lf x u od σ' H' δ' M' (p.tk.trans k) xr rs rm (hn e)⟩
    exact ⟨H', δ', M', { D' with xx := fun _ _ _ => False }, ⟨TK.refl H', fun _ _ _ _ _ _ _ _ _ _ _ z => z, rs, rm⟩, hy e, ⟨(le.tk k).nx, (le.tk k).rt, (le.tk k).bk, (le.tk k).ct⟩⟩
end
end QL

namespace QL
open PySem PySem.Spec PyProof.Rows L2

theorem hu65 {k : Nat} {A : Around} (hr : Room k A) : A.units + 65 < cLine := by have := hr.un; omega
theorem hu64 {k : Nat} {A : Around} (hr : Room k A) : A.units + 64 < cLine := by have := hr.un; omega
section
variable {X : Cx} {W : WX} {a b c e o : Expr} {es : List Expr} {wa wb wo : DE} {ws : DA} {tc : DT} {pos : Pos} {st : Stmt} {sts : List Stmt} {w1 w2 : DS}
/-! ### constants of the module -/
theorem qe_gstr {x : Str} {s : String} {t : Tok} (hg : Gl X x) (hm : X.mg x = some (.str (Str.ofString s) t)) (hd : (x == ("__debug__" : Str)) = false := by decide +kernel) : QE X W (.Name x pos) (wC (.str (tx s))) :=
  qe_glob (v := .str (Str.ofString s)) (fun _ => ⟨by rw [str_of], okc_tx s⟩) hg hm ⟨t, rfl⟩ hd
theorem qe_gint {x : Str} {i : Int} {t : Tok} (hg : Gl X x) (hm : X.mg x = some (.int i t)) (hd : (x == ("__debug__" : Str)) = false := by decide +kernel) : QE X W (.Name x pos) (wC (.int i)) :=
  qe_glob (v := .int i) (fun _ => RD.intI) hg hm ⟨t, rfl⟩ hd
theorem qe_bty {x : Str} {n : String} (hg : Gl X x) (hm : X.mg x = none) (hv : bootBuiltins x = some (.type n) := by decide +kernel) (hn : x ≠ "__name__" := by decide +kernel) (hd : (x == ("__debug__" : Str)) = false := by decide +kernel) : QE X W (.Name x pos) (wC (.ty n)) :=
  qe_c (pe_bltn (v := .ty n) hg hm hv rfl hn hd) fun _ => rfl
theorem qe_cls {x : Str} {C : Addr} (hm : X.mg x = some (.ref C)) (hg : Gl X x) (hd : (x == ("__debug__" : Str)) = false := by decide +kernel) : QE X W (.Name x pos) (wC (.ob C)) :=
  qe_glob (v := .ref C) (fun _ => RD.obI) hg hm rfl hd
/-! ### int * int, text * int -/
theorem foldl_app (xs : List Nat) : ∀ (m : Nat) (acc : List Nat), List.foldl (· ++ ·) acc.toArray (List.replicate m xs.toArray) = (acc ++ (List.replicate m xs).flatten).toArray
  | 0, acc => by simp
  | m + 1, acc => by
    rw [List.replicate_succ, List.foldl_cons, List.append_toArray, foldl_app xs m (acc ++ xs), List.replicate_succ, List.flatten_cons, List.append_assoc]
def rMulS : R2 := fun x y H Q => ∃ z i, x = .str z ∧ y = .int i ∧ -1000000 ≤ i ∧ i ≤ 1000000 ∧ z.length * i.toNat ≤ sizeLine ∧ z.length ≤ sizeLine ∧ Q (.str ⟨(List.replicate i.toNat z.cps.toList).flatten.toArray⟩) H
theorem op_mulS : OpR X (binaryOp .Mult) rMulS := by
  intro pins s σ H x y v u Q I rx ry h
  obtain ⟨z, i, rfl, rfl, h1, h2, h3, h4, q⟩ := h
  obtain ⟨t, rfl⟩ := rx
  obtain ⟨t', rfl⟩ := ry
  have hs : sizeLine = 16777216 := sizeLine_eq
  have e0 : (List.replicate i.toNat z.cps).foldl (· ++ ·) #[] = (List.replicate i.toNat z.cps.toList).flatten.toArray := by
    have := foldl_app z.cps.toList i.toNat []
    simpa using this
  have lf : ((List.replicate i.toNat z.cps.toList).flatten).length = z.length * i.toNat := by
    simp [Str.length, Nat.mul_comm]
  refine PySem.P.mul_str ?_ ?_ ?_ ?_
  · rw [decide_eq_false (by omega), decide_eq_false (by omega)]; rfl
  · intro n1 n2 hh
    have hi : 1 ≤ i := by omega
    have hh' := Int.lt_of_lt_of_le hh (show (z.length : Int) ≤ 16777216 by omega)
    have : (2 ^ 63 - 1 : Int) / 1000000 ≤ (2 ^ 63 - 1) / i := by
      apply Int.le_ediv_of_mul_le (by omega)
      have h5 : (2 ^ 63 - 1 : Int) / 1000000 * i ≤ (2 ^ 63 - 1 : Int) / 1000000 * 1000000 := Int.mul_le_mul_of_nonneg_left (by omega) (by decide)
      exact Int.le_trans h5 (by decide)
    have h6 : (16777216 : Int) < (2 ^ 63 - 1) / 1000000 := by decide
    omega
  · intro _ _
    have e : Builtin.Str.tooLong (z.length * i.toNat) = false := by
      unfold Builtin.Str.tooLong
      first
        | exact decide_eq_false (by omega)
        | (simp; omega)
    exact e
  · by_cases c1 : i < 1
    · rw [if_pos c1]
      have e : (List.replicate i.toNat z.cps.toList).flatten = [] := by
        have : i.toNat = 0 := by omega
        rw [this]; rfl
      rw [e] at q
      exact ⟨by decide, .str _, H, I.tok _, ⟨_, rfl⟩, q⟩
    · rw [if_neg c1]
      by_cases c2 : (i == 1 || z.length == 0) = true
      · rw [if_pos c2]
        have e : (⟨(List.replicate i.toNat z.cps.toList).flatten.toArray⟩ : Str) = z := by
          rw [Bool.or_eq_true, beq_iff_eq, beq_iff_eq] at c2
          rcases c2 with c2 | c2
          · subst c2
            show (⟨(List.replicate 1 z.cps.toList).flatten.toArray⟩ : Str) = z
            simp
          · have hz : z.cps.toList = [] := by
              have : z.cps.toList.length = 0 := by simpa [Str.length] using c2
              exact List.eq_nil_of_length_eq_zero this
            have e2 : (List.replicate i.toNat z.cps.toList).flatten = [] := by rw [hz]; simp
            rw [e2]
            have e3 : z.cps = #[] := by simpa using congrArg List.toArray hz
            obtain ⟨zc⟩ := z
            simp only at e3
            rw [e3]
        rw [e] at q
        exact ⟨.str _, H, I, ⟨t, rfl⟩, q⟩
      · rw [if_neg c2, e0]
        refine ⟨?_, .str _, H, I.tok _, ⟨_, rfl⟩, q⟩
        show (List.toArray _).size ≤ _
        rw [List.size_toArray, lf]; exact h3
def mulD : D2 := fun d e M Q => match d, e with
  | .int i, .int j => CMul i j ∧ Q (.int (i * j)) M
  | .str x, .int i => (-1000000 ≤ i ∧ i ≤ 1000000 ∧ x.length * i.toNat ≤ sizeLine ∧ x.length ≤ sizeLine) ∧ Q (.str (List.replicate i.toNat x).flatten) M
  | _, _ => False
def rMulAll : R2 := fun x y H Q => rI CMul (fun i j => .int (i * j)) x y H Q ∨ rMulS x y H Q
theorem op_mulAll : OpR X (binaryOp .Mult) rMulAll := op_mul.or op_mulS
theorem okc_rep {x : Tx} (h : okc x) (n : Nat) : okc (List.replicate n x).flatten := fun c hc => by
  obtain ⟨l, hl, h2⟩ := List.mem_flatten.mp hc
  rw [(List.mem_replicate.mp hl).2] at h2
  exact h c h2
theorem o2_mul {K : PySem.W.Frag} : O2 K rMulAll mulD := by
  intro x y d e H M Q Q' r1 r2 m w k
  unfold mulD at w
  split at w
  · cases r1; cases r2
    exact .inl ⟨_, _, rfl, rfl, w.1, k _ H _ M (TK.refl H) RD.intI m w.2⟩
  · obtain ⟨rfl, ok⟩ := r1
    cases r2
    obtain ⟨⟨h1, h2, h3, h4⟩, w⟩ := w
    exact .inr ⟨_, _, rfl, rfl, h1, h2, by rw [str_len]; exact h3, by rw [str_len]; exact h4, k _ H _ M (TK.refl H) (RD.strI (okc_rep ok _)) m w⟩
  · exact w.elim
theorem qe_mul (ha : QE X W a wa) (hb : QE X W b wb) : QE X W (.BinOp a .Mult b pos) (wOp mulD wa wb) := qe_op op_mulAll o2_mul ha hb
/-! ### isinstance of built-in types -/
def isiT (t T : String) : Bool := t == T || (t == "bool" && T == "int")
def isiOk (t T : String) : Prop := kitB t T = some (isiT t T)
theorem isi_all : ∀ t ∈ ["NoneType", "bool", "int", "str", "tuple", "list", "dict"], ∀ T ∈ ["bool", "int", "str", "tuple", "list", "dict"], kitB t T = some (isiT t T) := by decide +kernel
def tyN (d : D) (M : Mp) (k : String → Prop) : Prop := match d with
  | .non => k "NoneType"
  | .bl _ => k "bool"
  | .int _ => k "int"
  | .str _ => k "str"
  | .tup _ => k "tuple"
  | .fl _ => k "list"
  | .ob a => (∃ xs, M a = some (.lst xs) ∧ k "list") ∨ (∃ xs, M a = some (.dic xs) ∧ k "dict")
  | .ty _ => False
  | .any => False
def isiD : D1L := fun ds M Q => match ds with
  | [d, .ty T] => T ∈ ["bool", "int", "str", "tuple", "list", "dict"] ∧ tyN d M fun t => Q (.bl (isiT t T)) M
  | _ => False
theorem tyX_of {K : PySem.W.Frag} {H : Hp} {M : Mp} {d : D} {x : V} {k : String → Prop} (r : RD K H d x) (m : RM K H M) (h : tyN d M k) : ∃ t, t ∈ ["NoneType", "bool", "int", "str", "tuple", "list", "dict"] ∧ TyX K H x (.type t) ∧ k t := by
  cases d with
  | non => cases r; exact ⟨_, by decide, .base .non, h⟩
  | bl b => cases r; exact ⟨_, by decide, .base (.bl b), h⟩
  | int i => cases r; exact ⟨_, by decide, .base (.int i), h⟩
  | str s => obtain ⟨rfl, _⟩ := r; exact ⟨_, by decide, .base (.str _), h⟩
  | tup ds =>
    obtain ⟨a, xs, rfl, s, _⟩ := r
    rcases s with (s | ⟨o, s⟩) | ⟨o, its, n, s, c, _⟩
    · exact ⟨_, by decide, .base (.tup s), h⟩
    · exact ⟨_, by decide, .fTuple s, h⟩
    · exact ⟨_, by decide, .kTuple s c, h⟩
  | fl ds =>
    obtain ⟨a, xs, rfl, s, _⟩ := r
    rcases s with ⟨o, s⟩ | ⟨o, its, n, s, c, _⟩
    · exact ⟨_, by decide, .base (.frz s), h⟩
    · exact ⟨_, by decide, .kList s c, h⟩
  | ob a =>
    cases r
    rcases h with ⟨xs, e, h⟩ | ⟨xs, e, h⟩
    · obtain ⟨us, z, _⟩ := m _ _ e
      exact ⟨_, by decide, .base (.lst z), h⟩
    · obtain ⟨us, z, _⟩ := m _ _ e
      exact ⟨_, by decide, .base (.dK z), h⟩
  | ty n => exact h.elim
  | any => exact h.elim
theorem ol_isi {K : PySem.W.Frag} : OL K (rIsi K) isiD := by
  intro xs ds H M Q Q' r m w k
  unfold isiD at w
  split at w
  · obtain ⟨v, u, rfl, r1, rfl⟩ := rds2 r
    obtain ⟨hT, w⟩ := w
    obtain ⟨t, ht, ty, q⟩ := tyX_of r1 m w
    exact ⟨v, _, _, _, _, rfl, .ty _, ty, kit_ty (isi_all t ht _ hT), k _ H _ M (TK.refl H) RD.blI m q⟩
  · exact w.elim
/-! ### sep.join(list or tuple of texts) -/
def strsD : List D → Option (List Tx)
  | [] => some []
  | .str s :: r => (strsD r).map (s :: ·)
  | _ :: _ => none
def joinT (sep : Tx) : List Tx → Tx
  | [] => []
  | [x] => x
  | x :: y :: r => x ++ sep ++ joinT sep (y :: r)
def joinOk (sep : Tx) (ss : List Tx) : Prop := (ss.map (·.length)).sum + ss.length * sep.length ≤ 16777216
def joinD : DMt := fun d ds M Q => match d, ds with
  | .str sep, [.ob a] => onL M a fun xs => ∃ ss, strsD xs = some ss ∧ joinOk sep ss ∧ Q (.str (joinT sep ss)) M
  | .str sep, [.tup xs] => ∃ ss, strsD xs = some ss ∧ joinOk sep ss ∧ Q (.str (joinT sep ss)) M
  | _, _ => False
theorem strs_rds {K : PySem.W.Frag} {H : Hp} : ∀ {xs : List D} {us : List V} {ss : List Tx}, RDs K H xs us → strsD xs = some ss → us = (ss.map fun s => (⟨s.toArray⟩ : Str)).map V.str ∧ ∀ s ∈ ss, okc s
  | [], _, _, r, h => by
    cases r
    cases h
    exact ⟨rfl, fun s z => by cases z⟩
  | .str s :: xs, _, _, r, h => by
    obtain ⟨v, vs, rfl, r1, r2⟩ := r
    obtain ⟨rfl, ok⟩ := r1
    unfold strsD at h
    cases e : strsD xs with
    | none => rw [e] at h; cases h
    | some ss =>
      rw [e] at h
      cases h
      obtain ⟨h1, h2⟩ := strs_rds r2 e
      refine ⟨by rw [h1]; rfl, fun z hz => ?_⟩
      rcases List.mem_cons.mp hz with hz | hz
      · rw [hz]; exact ok
      · exact h2 z hz
  | .non :: _, _, _, _, h => by cases h
  | .bl _ :: _, _, _, _, h => by cases h
  | .int _ :: _, _, _, _, h => by cases h
  | .tup _ :: _, _, _, _, h => by cases h
  | .fl _ :: _, _, _, _, h => by cases h
  | .ob _ :: _, _, _, _, h => by cases h
  | .ty _ :: _, _, _, _, h => by cases h
  | .any :: _, _, _, _, h => by cases h
theorem join_of' (sep : Tx) : ∀ ss : List Tx, Str.join ⟨sep.toArray⟩ (ss.map fun s => (⟨s.toArray⟩ : Str)) = ⟨(joinT sep ss).toArray⟩
  | [] => rfl
  | [x] => rfl
  | x :: y :: r => by
    have ih := join_of' sep (y :: r)
    simp only [List.map_cons] at ih ⊢
    show (⟨x.toArray⟩ : Str) ++ ⟨sep.toArray⟩ ++ Str.join ⟨sep.toArray⟩ (⟨y.toArray⟩ :: r.map fun s => (⟨s.toArray⟩ : Str)) = _
    rw [ih, str_app, str_app]; rfl
theorem join_of (sep : Tx) (ss : List Tx) : Txt.join ⟨sep.toArray⟩ (ss.map fun s => (⟨s.toArray⟩ : Str)) = ⟨(joinT sep ss).toArray⟩ := (TL.join_eq _ _).trans (join_of' sep ss)
theorem okc_join {sep : Tx} (h : okc sep) : ∀ {ss : List Tx}, (∀ s ∈ ss, okc s) → okc (joinT sep ss)
  | [], _ => okc_nil
  | [x], k => k x (by simp)
  | x :: y :: r, k => okc_append (okc_append (k x (by simp)) h) (okc_join h fun s hs => k s (List.mem_cons_of_mem _ hs))
def rJoin (K : PySem.W.Frag) : V → List V → Hp → VK → Prop := fun x xs H Q => ∃ a p, ∃ ys : List Str, x = .str a ∧ xs = [.ref p] ∧ (SqL K H p (ys.map V.str) ∨ SqT K H p (ys.map V.str)) ∧
    (ys.map (·.length)).sum + ys.length * a.length ≤ 16777216 ∧ Q (.str (Txt.join a ys)) H
theorem map_lens (ss : List Tx) : ((ss.map fun s => (⟨s.toArray⟩ : Str)).map (·.length)) = ss.map (·.length) := by
  rw [List.map_map]
  exact List.map_congr_left fun s _ => str_len
theorem om_join {K : PySem.W.Frag} : OM K (rJoin K) joinD := by
  intro x xs d ds H M Q Q' r1 r2 m w k
  unfold joinD at w
  split at w
  · obtain ⟨rfl, ok⟩ := r1
    obtain ⟨v, rfl, rfl⟩ := rds1 r2
    obtain ⟨ys, e1, ss, hs, hz, w⟩ := w
    obtain ⟨us, h, t⟩ := m _ _ e1
    obtain ⟨e2, oks⟩ := strs_rds t hs
    refine ⟨_, _, _, rfl, rfl, .inl (by rw [← e2]; exact SqL.of h), ?_, ?_⟩
    · rw [map_lens, List.length_map, str_len]; exact hz
    · rw [join_of]
      exact k _ H _ M (TK.refl H) (RD.strI (okc_join ok oks)) m w
  · obtain ⟨rfl, ok⟩ := r1
    obtain ⟨v, rfl, ⟨a, us, rfl, s, t⟩⟩ := rds1 r2
    obtain ⟨ss, hs, hz, w⟩ := w
    obtain ⟨e2, oks⟩ := strs_rds t hs
    refine ⟨_, _, _, rfl, rfl, .inr (by rw [← e2]; exact s), ?_, ?_⟩
    · rw [map_lens, List.length_map, str_len]; exact hz
    · rw [join_of]
      exact k _ H _ M (TK.refl H) (RD.strI (okc_join ok oks)) m w
  · exact w.elim
theorem qe_join {apos : Pos} (ho : QE X W o wo) (ha : QE X W e wa) (he : starEach [e] X.env = (false, eval e X.env) :: starEach [] X.env := by rfl) (hbase : attributeBase o "join" X.env (eval o X.env) = eval o X.env := by rfl)
    (hfew : ((backTo pos (starEach [e] X.env)).all (fun x => !x.1) && (backToKw pos (keywordEach [] X.env)).all (fun x => x.1.isSome)
      && decide ([e].length + ([] : List Keyword).length + (if ([] : List Keyword).isEmpty then 0 else 1) < 30)) = true := by rfl)
    (hline : (apos.endLine == pos.line) = true := by rfl) : QE X W (.Call (.Attribute o "join" apos) [e] [] pos) (wBM "str" joinD wo (wCons wa wNil)) :=
  qe_bm PySem.F.plainAttrs_str PySem.F.slot_str_join PySem.F.type_str_join mt_join om_join ho (qa_cons ha qa_nil he) hbase hfew hline he
/-! ### comprehensions -/
def wipeD (δ : Env) : List Nat → Env
  | [] => δ
  | v :: vs => (wipeD δ vs).set v none
theorem RS.unset {K : PySem.W.Frag} {H : Hp} {δ : Env} {σ : L2.St} (h : RS K H δ σ) (i : Nat) : RS K H (δ.set i none) (σ.set i none) := by
  refine ⟨by simp [h.1], fun j d q => ?_⟩
  by_cases hj : j = i
  · subst hj
    by_cases hl : j < δ.length
    · rw [List.getElem?_set_self hl] at q; cases q
    · rw [List.getElem?_eq_none_iff.mpr (by simp; omega)] at q; cases q
  · rw [List.getElem?_set_ne (Ne.symm hj)] at q ⊢
    exact h.2 j d q
theorem RS.wipe {K : PySem.W.Frag} {H : Hp} {δ : Env} {σ : L2.St} (h : RS K H δ σ) : ∀ vs, RS K H (wipeD δ vs) (L2.wipe σ vs)
  | [] => h
  | v :: vs => (RS.wipe h vs).unset v
abbrev QTs (X : Cx) (W : WX) (ifs : List Expr) (w : DT) : Prop := PTs X ifs (cT X.K W w)
def wYes : DT := fun _ M Q _ => Q true M
theorem pts_weak {e : List Expr} {t t' : TT} (h : PTs X e t) (k : ∀ σ H Q, t' σ H Q → t σ H Q) : PTs X e t' := ⟨fun pins s σ H Q I q => h.run pins s σ H Q I (k σ H Q q)⟩
theorem qts_nil : QTs X W [] wYes := pts_weak pts_nil fun σ H Q ⟨H0, δ, M, Q', XX, p, w, k⟩ => k true H M (TK.refl H) p.rm w
theorem qts_one (h : QT X W c tc) : QTs X W [c] tc := pts_one h
abbrev W0 : WX := fun _ _ _ _ => False
/-- what a comprehension asks, once its items are known; p is the new list -/
def LcOk (it : DIt) (vs : List Nat) (g : DG) (tt : DT) (te : DE) (δ : Env) (M : Mp) (p : Addr) (Q : Mp → Prop) : Prop := ∃ I : Nat → Mp → Prop, I 0 (upm M p (.lst [])) ∧ (∀ i M, i ≤ it.xs.length → I i M → it.G M) ∧
  (∀ i d M, it.xs[i]? = some d → I i M → g d (wipeD δ vs) M fun δ2 M2 => tt δ2 M2 (fun b M3 => if b = true then te δ2 M3 (fun y M4 => ∃ acc, M4 p = some (.lst acc) ∧ acc.length < sizeLine ∧ I (i + 1) (upm M4 p (.lst (acc ++ [y])))) (fun _ _ => False) else I (i + 1) M3) (fun _ _ => False)) ∧
  ∀ M, I it.xs.length M → Q M
def wLc (vs : List Nat) (wi : DI) (g : DG) (tt : DT) (te : DE) : DE := fun δ M Q E => wi δ M (fun it M1 => ∀ p, M1 p = none → LcOk it vs g tt te δ M1 p (Q (.ob p))) E
theorem lc_list {xs : List D} {G : Mp → Prop} {vs : List Nat} {g : DG} {tt : DT} {te : DE} {δ : Env} {M : Mp} {p : Addr} {Q : Mp → Prop} (I : Nat → Mp → Prop) (h0 : I 0 (upm M p (.lst []))) (hG : ∀ i M, i ≤ xs.length → I i M → G M)
    (hs : ∀ i d M, xs[i]? = some d → I i M → g d (wipeD δ vs) M fun δ2 M2 => tt δ2 M2 (fun b M3 => if b = true then te δ2 M3 (fun y M4 => ∃ acc, M4 p = some (.lst acc) ∧ acc.length < sizeLine ∧ I (i + 1) (upm M4 p (.lst (acc ++ [y])))) (fun _ _ => False) else I (i + 1) M3) (fun _ _ => False))
    (hd : ∀ M, I xs.length M → Q M) : LcOk ⟨xs, G⟩ vs g tt te δ M p Q := ⟨I, h0, hG, hs, hd⟩
theorem lc_rng {lo : Int} {n : Nat} {vs : List Nat} {g : DG} {tt : DT} {te : DE} {δ : Env} {M : Mp} {p : Addr} {Q : Mp → Prop} (I : Nat → Mp → Prop) (h0 : I 0 (upm M p (.lst [])))
    (hs : ∀ (i : Nat) M, i < n → I i M → g (.int (lo + i)) (wipeD δ vs) M fun δ2 M2 => tt δ2 M2 (fun b M3 => if b = true then te δ2 M3 (fun y M4 => ∃ acc, M4 p = some (.lst acc) ∧ acc.length < sizeLine ∧ I (i + 1) (upm M4 p (.lst (acc ++ [y])))) (fun _ _ => False) else I (i + 1) M3) (fun _ _ => False))
    (hd : ∀ M, I n M → Q M) : LcOk ⟨(List.range n).map fun (i : Nat) => QL.D.int (lo + i), fun _ => True⟩ vs g tt te δ M p Q := by
  refine ⟨I, h0, fun _ _ _ _ => trivial, fun i d M hd h => ?_, fun M h => hd M (by simpa using h)⟩
  have hi : i < n := by
    have := (List.getElem?_eq_some_iff.mp hd).1
    simpa using this
  have e : ((List.range n).map fun (i : Nat) => QL.D.int (lo + i))[i]? = some (.int (lo + i)) := by simp [List.getElem?_range hi]
  have hd' : ((List.range n).map fun (i : Nat) => QL.D.int (lo + i))[i]? = some d := hd
  rw [e] at hd'
  cases hd'
  exact hs i M hi h
theorem lf0 {K : PySem.W.Frag} {H : Hp} {W : WX} : Lf K H W fun _ _ _ => False := fun _ _ _ _ _ _ _ _ _ _ _ z => z.elim
theorem lc_of {vs : List Nat} {wi : DI} {g : DG} {tt : DT} {te : DE} {σ : L2.St} {H : Hp} {Q : VK} {K : PySem.W.Frag} (h : cE K W (wLc vs wi g tt te) σ H Q) : tLc (cI K W wi) (cG K vs g) (cT K W0 tt) (cE K W0 te) vs σ H Q := by
  obtain ⟨H0, δ, M, Q', XX, p, w, k⟩ := h
  refine ⟨H0, δ, M, _, XX, p, w, fun J H1 it M1 k1 m1 wk w1 D hD => ?_⟩
  obtain ⟨I, i0, hG, turn, fin⟩ := w1 D (m1.none hD)
  have tD : TK H1 (upd H1 D (.lst [])) := TK.new hD
  have mD : RM K (upd H1 D (.lst [])) (upm M1 D (.lst [])) := m1.new hD (RO.lstI (xs := []) upd_same rfl)
  refine ⟨fun i m H' => m = it.xs.length - i ∧ i ≤ it.xs.length ∧ ∃ M', TK H1 H' ∧ RM K H' M' ∧ I i M', ⟨_, rfl, Nat.zero_le _, _, tD, mD, i0⟩, ?_⟩
  rintro i m H2 ⟨rfl, hi, M2, k2, m2, i2⟩
  have g2 := hG i M2 hi i2
  by_cases hlt : i < it.xs.length
  · refine .inr ⟨wk.goes i H2 M2 k2 m2 g2 hlt, fun H' => ∃ m', m' < it.xs.length - i ∧ (m' = it.xs.length - (i + 1) ∧ i + 1 ≤ it.xs.length ∧ ∃ M', TK H1 H' ∧ RM K H' M' ∧ I (i + 1) M'), fun H' z => z, fun x H3 y => ?_⟩
    obtain ⟨d, hd, k3, rd, m3⟩ := wk.yields i x H2 H3 M2 k2 m2 g2 hlt y
    refine ⟨wipeD δ vs, M2, d, _, ((p.rs.tk k1).tk (k2.trans k3)).wipe vs, m3, rd, turn i d M2 hd i2, fun σ4 H4 δ4 M4 k4 rs4 m4 hw q => ⟨?_, ?_⟩⟩
    · have ww : ∀ (τ : L2.St) (us : List Nat), L2.wipe (L2.wipe τ us) us = L2.wipe τ us := by
        intro τ us
        have z : ∀ (ls : List Nat), (∀ x ∈ ls, x ∈ us) → L2.wipe (L2.wipe τ us) ls = L2.wipe τ us := by
          intro ls
          induction ls with
          | nil => intro _; rfl
          | cons a l ih =>
            intro hl
            show (L2.wipe (L2.wipe τ us) l).set a none = _
            rw [ih fun x hx => hl x (List.mem_cons_of_mem _ hx)]
            have ha : a ∈ us := hl a List.mem_cons_self
            apply List.ext_getElem?
            intro j
            by_cases hj : j = a
            · subst hj
              by_cases hlen : j < (L2.wipe τ us).length
              · rw [List.getElem?_set_self hlen]
                cases q1 : (L2.wipe τ us)[j]? with
                | none => rw [List.getElem?_eq_none_iff] at q1; omega
                | some o =>
                  cases o with
                  | none => rfl
                  | some v => exact absurd ha (L2.wipe_some q1).2
              · rw [List.getElem?_eq_none (by simp; omega), List.getElem?_eq_none (by omega)]
            · rw [List.getElem?_set_ne (Ne.symm hj)]
        exact z us fun _ h => h
      rw [hw, ww]
    · refine ⟨H4, δ4, M4, _, fun _ _ _ => False, ⟨TK.refl H4, lf0, rs4, m4⟩, q, fun b H5 M5 k5 m5 q5 => ?_⟩
      have kk := k2.trans (k3.trans (k4.trans k5))
      cases b with
      | true =>
        rw [if_pos rfl] at q5
        show if true = true then _ else _
        rw [if_pos rfl]
        refine ⟨H5, δ4, M5, _, fun _ _ _ => False, ⟨TK.refl H5, lf0, rs4.tk k5, m5⟩, q5, fun v H6 dy M6 k6 rd6 m6 q6 => ?_⟩
        obtain ⟨acc, ea, hz, q6⟩ := q6
        obtain ⟨us, h6, t6⟩ := m6 _ _ ea
        have kp := TK.put (o := .lst (us ++ [v])) h6 notPerm_lst
        exact ⟨us, h6, by rw [← t6.length]; exact hz, it.xs.length - (i + 1), by omega, rfl, hlt, _, kk.trans (k6.trans kp), m6.put h6 notPerm_lst (RO.lstI upd_same (RDs.tk kp (t6.append (RDs.oneI rd6)))), q6⟩
      | false =>
        rw [if_neg Bool.false_ne_true] at q5
        show if false = true then _ else _
        rw [if_neg Bool.false_ne_true]
        exact ⟨it.xs.length - (i + 1), by omega, rfl, hlt, M5, kk, m5, q5⟩
  · have e : i = it.xs.length := by omega
    subst e
    exact .inl ⟨wk.stops H2 M2 k2 m2 g2, k _ H2 _ M2 (k1.trans k2) RD.obI m2 (fin M2 i2)⟩
theorem qe_lc {elt tg iter : Expr} {ifs : List Expr} {scope : Scope} {own : List (Str × Nat)} {wi : DI} {g : DG} {tt : DT} {te : DE} (hc : X.calm = true) (hN : X.N.Nodup) (hi : QI X W tg iter wi) (ok : BlkOk X.N X.env.scope scope own)
    (hg : ∀ (s : Shared) (H : Hp) (C : Addr) (cl : List (Str × Addr)) (fp : List Addr), QG (X.blk s H scope (compEnvC scope cl C X.env) fp) (own.map (·.2)) tg g) (ht : ∀ (s : Shared) (H : Hp) (C : Addr) (cl : List (Str × Addr)) (fp : List Addr), QTs (X.blk s H scope (compEnvC scope cl C X.env) fp) W0 ifs tt)
    (he : ∀ (s : Shared) (H : Hp) (C : Addr) (cl : List (Str × Addr)) (fp : List Addr), QE (X.blk s H scope (compEnvC scope cl C X.env) fp) W0 elt te) (hs : ∀ x, foldedSetIterable iter X.env x = pure x := by intro _; rfl) :
    QE X W (.ListComp elt [⟨tg, iter, ifs, 0⟩] scope pos) (wLc (own.map (·.2)) wi g tt te) :=
  pe_weak (pe_lc hc hN hi ok hg ht he hs) fun _ _ _ h => lc_of h
/-- name = [..] on one line -/
theorem qs_setLc (i : Nat) {y : Str} {py : Pos} {elt tg iter : Expr} {ifs : List Expr} {scope : Scope} {own : List (Str × Nat)} {spos : Pos} {wi : DI} {g : DG} {tt : DT} {te : DE} (hc : X.calm = true) (hN : X.N.Nodup)
    (hsw : swapsWith (.ListComp elt [⟨tg, iter, ifs, 0⟩] scope pos) (some (.Name y py)) spos.line X.env = pure true) (hi : QI X W tg iter wi) (ok : BlkOk X.N X.env.scope scope own)
    (hg : ∀ (s : Shared) (H : Hp) (C : Addr) (cl : List (Str × Addr)) (fp : List Addr), QG (X.blk s H scope (compEnvC scope cl C X.env) fp) (own.map (·.2)) tg g) (ht : ∀ (s : Shared) (H : Hp) (C : Addr) (cl : List (Str × Addr)) (fp : List Addr), QTs (X.blk s H scope (compEnvC scope cl C X.env) fp) W0 ifs tt)
    (he : ∀ (s : Shared) (H : Hp) (C : Addr) (cl : List (Str × Addr)) (fp : List Addr), QE (X.blk s H scope (compEnvC scope cl C X.env) fp) W0 elt te) (hy : X.N[i]? = some y := by rfl) (hyl : X.env.scope.names.lookup y = some .local := by rfl) (hs : ∀ x, foldedSetIterable iter X.env x = pure x := by intro _; rfl) :
    QS X W (.Assign [.Name y py] (.ListComp elt [⟨tg, iter, ifs, 0⟩] scope pos) spos) (wAsg (wLc (own.map (·.2)) wi g tt te) (gN i)) :=
  ps_weak (ps_setLc hc hN hy hyl hsw hi ok hg ht he hs) fun D σ H ⟨H0, δ, M, D', p, w, le⟩ => lc_of ⟨H0, δ, M, _, D'.xx, p, w, fun v H' d M' k rd rm q => le.nx _ H' _ M' k ((p.rs.tk k).set i rd) rm q⟩
end
end QL

namespace QL
open PySem PySem.Spec PyProof.Rows L2
section
variable {M : Mp} {Q : KD} {x y : Tx} {i j : Int} {xs ys : List D} {a b : Addr} {B : Bool → Mp → Prop} {k : String → Prop} {d e : D} {lo hi : Option Int} {f : Int → Int → D} {C : Int → Int → Prop} {neg bb : Bool} {T : String}
theorem e_add_i : addD (.int i) (.int j) M Q = Q (.int (i + j)) M := rfl
theorem e_add_s : addD (.str x) (.str y) M Q = (x.length + y.length ≤ sizeLine ∧ Q (.str (x ++ y)) M) := rfl
theorem e_add_t : addD (.tup xs) (.tup ys) M Q = (xs.length + ys.length ≤ sizeLine ∧ Q (.tup (xs ++ ys)) M) := rfl
theorem e_add_o : addD (.ob a) (.ob b) M Q = onL M a fun xs => onL M b fun ys => xs.length + ys.length ≤ sizeLine ∧ ∀ p, M p = none → Q (.ob p) (upm M p (.lst (xs ++ ys))) := rfl
theorem e_int : intD C f (.int i) (.int j) M Q = (C i j ∧ Q (f i j) M) := rfl
theorem e_int0 : int0D f (.int i) (.int j) M Q = Q (f i j) M := rfl
theorem e_mul_i : mulD (.int i) (.int j) M Q = (CMul i j ∧ Q (.int (i * j)) M) := rfl
theorem e_mul_s : mulD (.str x) (.int i) M Q = ((-1000000 ≤ i ∧ i ≤ 1000000 ∧ x.length * i.toNat ≤ sizeLine ∧ x.length ≤ sizeLine) ∧ Q (.str (List.replicate i.toNat x).flatten) M) := rfl
theorem e_in_s : inD neg d (.str x) M Q = ∃ c, d = .str [c] ∧ Q (.bl (xor neg (decide (c ∈ x)))) M := rfl
theorem e_in_t : inD neg d (.tup xs) M Q = (okN 64 d = true ∧ okN 64 (.tup xs) = true ∧ Q (.bl (xor neg (xs.any fun x => deq x d))) M) := rfl
theorem e_in_o : inD neg d (.ob a) M Q = onL M a fun xs => okN 64 d = true ∧ okN 64 (.tup xs) = true ∧ Q (.bl (xor neg (xs.any fun x => deq x d))) M := rfl
theorem e_ix_s : ixD (.str x) (.int i) M Q = (x.length ≤ sizeLine ∧ ∃ c, atI x i = some c ∧ Q (.str [c]) M) := rfl
theorem e_ix_t : ixD (.tup xs) (.int i) M Q = ∃ x, atI xs i = some x ∧ Q x M := rfl
theorem e_ix_f : ixD (.fl xs) (.int i) M Q = ∃ x, atI xs i = some x ∧ Q x M := rfl
theorem e_ix_o : ixD (.ob a) (.int i) M Q = onL M a fun xs => ∃ x, atI xs i = some x ∧ Q x M := rfl
theorem e_sl_s : slD (.str x) lo hi M Q = (x.length ≤ sizeLine ∧ Q (.str (cut x lo hi)) M) := rfl
theorem e_sl_t : slD (.tup xs) lo hi M Q = Q (.tup (cut xs lo hi)) M := rfl
theorem e_sl_o : slD (.ob a) lo hi M Q = onL M a fun xs => ∀ p, M p = none → Q (.ob p) (upm M p (.lst (cut xs lo hi))) := rfl
theorem e_tru_n : truD .non M B = B false M := rfl
theorem e_tru_b : truD (.bl bb) M B = B bb M := rfl
theorem e_tru_i : truD (.int i) M B = B (i != 0) M := rfl
theorem e_tru_s : truD (.str x) M B = (x.length ≤ sizeLine ∧ B (!x.isEmpty) M) := rfl
theorem e_tru_t : truD (.tup xs) M B = B (!xs.isEmpty) M := rfl
theorem e_len_s : lenD [.str x] M Q = (x.length ≤ sizeLine ∧ Q (.int x.length) M) := rfl
theorem e_len_t : lenD [.tup xs] M Q = Q (.int xs.length) M := rfl
theorem e_len_f : lenD [.fl xs] M Q = Q (.int xs.length) M := rfl
theorem e_len_o : lenD [.ob a] M Q = onL M a fun xs => Q (.int xs.length) M := rfl
theorem e_abs : absD [.int i] M Q = Q (.int (if i < 0 then -i else i)) M := rfl
theorem e_max : maxD [.int i, .int j] M Q = Q (.int (max i j)) M := rfl
theorem e_min : minD [.int i, .int j] M Q = Q (.int (min i j)) M := rfl
theorem e_int_i : intOf [.int i] M Q = Q (.int i) M := rfl
theorem e_int_b : intOf [.bl bb] M Q = Q (.int (if bb then 1 else 0)) M := rfl
theorem e_int_s : intOf [.str x] M Q = (x.length ≤ 640 ∧ ∃ n, PySem.intText? ⟨x.toArray⟩ = some n ∧ Q (.int n) M) := rfl
theorem e_str_i : QL.strOf [.int i] M Q = (i.natAbs < 2 ^ 1000 ∧ Q (.str (tx (toString i))) M) := rfl
theorem e_str_s : QL.strOf [.str x] M Q = Q (.str x) M := rfl
theorem e_isi : isiD [d, .ty T] M Q = (T ∈ ["bool", "int", "str", "tuple", "list", "dict"] ∧ tyN d M fun t => Q (.bl (isiT t T)) M) := rfl
theorem e_ty_n : tyN .non M k = k "NoneType" := rfl
theorem e_ty_b : tyN (.bl bb) M k = k "bool" := rfl
theorem e_ty_i : tyN (.int i) M k = k "int" := rfl
theorem e_ty_s : tyN (.str x) M k = k "str" := rfl
theorem e_ty_t : tyN (.tup xs) M k = k "tuple" := rfl
theorem e_ty_f : tyN (.fl xs) M k = k "list" := rfl
theorem e_ty_o : tyN (.ob a) M k = ((∃ xs, M a = some (.lst xs) ∧ k "list") ∨ (∃ xs, M a = some (.dic xs) ∧ k "dict")) := rfl
theorem e_app : appendD (.ob a) [d] M Q = onL M a fun xs => xs.length < sizeLine ∧ Q .non (upm M a (.lst (xs ++ [d]))) := rfl
theorem e_ext : extendD (.ob a) [.ob b] M Q = onL M a fun xs => onL M b fun ys => xs.length + ys.length ≤ sizeLine ∧ Q .non (upm M a (.lst (xs ++ ys))) := rfl
theorem e_join_o : joinD (.str x) [.ob a] M Q = onL M a fun xs => ∃ ss, strsD xs = some ss ∧ joinOk x ss ∧ Q (.str (joinT x ss)) M := rfl
theorem e_join_t : joinD (.str x) [.tup xs] M Q = ∃ ss, strsD xs = some ss ∧ joinOk x ss ∧ Q (.str (joinT x ss)) M := rfl
theorem e_none_n : isNone .non = true := rfl
theorem e_none_b : isNone (.bl bb) = false := rfl
theorem e_none_i : isNone (.int i) = false := rfl
theorem e_none_s : isNone (.str x) = false := rfl
theorem e_none_t : isNone (.tup xs) = false := rfl
theorem e_none_f : isNone (.fl xs) = false := rfl
theorem e_none_o : isNone (.ob a) = false := rfl
end
theorem tyN_list {M : Mp} {a : Addr} {xs : List D} {k : String → Prop} (h : M a = some (.lst xs)) : tyN (.ob a) M k = k "list" := by
  apply propext
  refine ⟨fun z => ?_, fun z => .inl ⟨xs, h, z⟩⟩
  rcases z with ⟨_, _, z⟩ | ⟨_, e, _⟩
  · exact z
  · rw [h] at e; cases e
theorem tyN_dic {M : Mp} {a : Addr} {xs : List (D × D)} {k : String → Prop} (h : M a = some (.dic xs)) : tyN (.ob a) M k = k "dict" := by
  apply propext
  refine ⟨fun z => ?_, fun z => .inr ⟨xs, h, z⟩⟩
  rcases z with ⟨_, e, _⟩ | ⟨_, _, z⟩
  · rw [h] at e; cases e
  · exact z
end QL

namespace QL
open PySem PySem.Spec PyProof.Rows L2
/-! ### the end: the law is called on the script alone -/
theorem script_reads {K : PySem.W.Frag} {H : Hp} {a : Addr} {ns : List Int} (hO : Only H) (hS : SqL K H a (ns.map V.int)) : RDs K H [.fl (ns.map D.int)] [V.ref a] := by
  refine RDs.oneI ⟨a, _, rfl, ?_, RDs.ints ns⟩
  rcases hS with (h | ⟨o, h⟩) | h
  · rcases hO a with z | ⟨o, xs, z⟩
    · rw [z] at h; cases h
    · rw [z] at h; cases h
  · exact .inl ⟨o, h⟩
  · exact .inr h
theorem walkD {l : PySem.W.OpenLaw} {k : Nat} {q : Program} {loose : List Str} {XP : (Str → Option Value) → Heap → Prop} {YP : World → Heap → Prop} {d : DefRec} {K : Params → PySem.W.Frag} {sp : SpD}
    (hn : l.most = some 63) (hdf : d.params.defaults = []) (hr : Room k callerA) (hY : ∀ (w : World) (h : Heap), YP w h → (K w.params).In h)
    (F : ∀ (w : World) (mg : Str → Option Value) (fa : Addr) (h : Heap), (K w.params).In h → h.Ns mainGlobals mg → mg d.name = some (.ref fa) →
      ∃ fd : FuncData, (∀ (s : Shared) (u : Value), BindsTo s fd ⟨[u], []⟩ [("_law_script", u)]) ∧
        ∀ base : Heap, (K w.params).In base → base.Ns mainGlobals mg → FnD l.prog w (K w.params) mg base k fa fd ["_law_script"] sp)
    (good : ∀ ns : List Int, ns.length ≤ 63 → sp [.fl (ns.map D.int)] (fun _ => none) (fun d _ => d = .bl true) (fun _ _ => False)) :
    PySem.W.WalkO q loose XP YP l.row.toRowW d [] (fun f vs => PySem.call f vs) := by
  refine L2.walk_of (CX := fun w => L2.CX l.prog w) (sp := fun w => lsp (K w.params) sp) hn (by decide) hdf hr hY F (fun w H a ns h1 h2 h3 => ?_) (fun w H s e s' c => ?_)
  · refine ⟨_, fun _ => none, fun d _ => d = .bl true, fun _ _ => False, script_reads h2 h3, (fun _ _ z => nomatch z), good ns h1, fun v H' d M' _ hd _ q => ?_, fun _ _ _ _ _ _ _ _ z => z.elim⟩
    cases q
    exact hd
  · obtain ⟨_, _, _, _, _, _, _, _, _, _, _, _, z⟩ := c
    exact z.elim
end QL

namespace QL
open PySem PySem.Spec PyProof.Rows L2
/-! ### an except clause that keeps the exception -/
noncomputable def isX (K : PySem.W.Frag) (cv : Value) (C : Addr) : Option Bool := by
  classical exact if ExcC K C then PySem.W.kitOne K (.ref C) cv else none
theorem isX_of {K : PySem.W.Frag} {cv : Value} {C : Addr} {b : Bool} (h : ExcC K C) (e : PySem.W.kitOne K (.ref C) cv = some b) : isX K cv C = some b := by
  unfold isX; rw [if_pos h]; exact e
theorem isX_is {K : PySem.W.Frag} {cv : Value} {C : Addr} {b : Bool} (h : isX K cv C = some b) : ExcC K C ∧ PySem.W.kitOne K (.ref C) cv = some b := by
  unfold isX at h
  split at h
  · exact ⟨by assumption, h⟩
  · cases h
theorem kit_own {K : PySem.W.Frag} {C t : Addr} (hd : PySem.W.hasDictIn K C = true) (ht : PySem.W.typeIn K (.ref C) = some (.type "type")) (h : PySem.W.subIn K (.ref t) (.ref C) = some true) : PySem.W.kitOne K (.ref t) (.ref C) = some true := by
  unfold PySem.W.kitOne
  split
  · rfl
  · obtain ⟨cd, hc, _⟩ := PySem.W.any_some hd
    have e2 : ((PySem.W.clsIn K C).isSome && PySem.W.typeIn K (.ref C) == some (.type "type")) = true := by rw [hc, ht] <;> rfl
    show (if ((PySem.W.clsIn K C).isSome && PySem.W.typeIn K (.ref C) == some (.type "type")) = true then PySem.W.subIn K (.ref t) (.ref C) else none) = _
    rw [if_pos e2]
    exact h
abbrev dictH (d : Option Addr) (fs : List (Str × D)) (M : Mp) : Mp := match d with
  | some dd => upm M dd (.xd fs)
  | none => M
def wTryAs (i : Nat) (h : Addr → Option Bool) (wb : DS) (ws : Addr → Addr → Option Addr → DS) : DS := fun D δ M => wb { D with xx := fun x δ' M' => ∃ b, h x.cls = some b ∧
  (b = true → ∀ a d, (x.fs = [] → d = none) → (x.fs ≠ [] → ∃ dd, d = some dd ∧ (M' dd = none ∨ ∃ gs, M' dd = some (.xd gs))) →
    ws a x.cls d { nx := fun δ M => D.nx (δ.set i none) M, rt := D.rt, bk := fun δ M => D.bk (δ.set i none) M, ct := fun δ M => D.ct (δ.set i none) M } (δ'.set i (some (.ob a))) (dictH d x.fs M')) ∧
  (b = false → D.xx x δ' M') } δ M
section
variable {X : Cx} {W : WX} {sts : List Stmt} {w1 : DS} {pos : Pos}
theorem RS.set_none {K : PySem.W.Frag} {H : Hp} {δ : Env} {σ : L2.St} (r : RS K H δ σ) (i : Nat) : RS K H (δ.set i none) (σ.set i none) :=
  ⟨by simpa using r.1, fun j d e => by
    by_cases q : j = i
    · subst q
      rw [List.getElem?_set] at e
      split at e
      · split at e
        · cases e
        · cases e
      · rename_i z; exact absurd rfl z
    · rw [List.getElem?_set_ne (Ne.symm q)] at e ⊢
      exact r.2 j d e⟩
theorem qs_tryAs {x n : Str} {c : Value} {i : Nat} {b₀ : Stmt} {suite : List Stmt} {np pos' : Pos} {h : Addr → Option Bool} {w2 : Addr → Addr → Option Addr → DS} (hs : X.stack = X.env :: X.outer) (hf : X.env.frame = some X.env.locals) (hN : X.N.Nodup) (hi : X.N[i]? = some n) (hln : X.env.kindOf n = some .local) (hc : Names X x c) (tk : Takes X W)
    (hh : ∀ C b, h C = some b → PySem.W.exmOne X.K (.ref C) c = some b)
    (hb : ∀ (W' : WX) (pn : List (Addr × Obj)) (xe : Value → Shared → Prop), Takes (X.tr pn xe) W' → PassesOwn (model X.prog X.w) X.A X.env xe → QSs (X.tr pn xe) W' sts w1)
    (hsu : ∀ (a : Addr) (oe : Obj) (C : Addr) (d : Option Addr) (pn : List (Addr × Obj)), Zc (.ref C) d oe → (∃ vs, oe.data = .fields vs) → QSs (X.suite a ((a, oe) :: pn)) (fun _ _ _ _ => False) (b₀ :: suite) (w2 a C d)) :
    QS X W (.Try sts [.ExceptHandler (some (.Name x np)) (some n) (b₀ :: suite) pos'] [] [] pos) (wTryAs i h w1 w2) :=
  ps_weak (ps_try_as (i := i) (tb := fun W' => cS X.K W' w1) (ts := fun a cls d D σ H => ∃ C, cls = .ref C ∧ cS X.K (fun _ _ _ _ => False) (w2 a C d) D σ H) hs hf hN hi hln hc tk hb (fun a oe cls d pn hz hf => ⟨fun pins s σ H D I h => by
      obtain ⟨C, rfl, h⟩ := h
      exact (hsu a oe C d pn hz hf).run pins s σ H D I h⟩)) fun D σ H ⟨H0, δ, M, D', p, w, le⟩ => by
    refine ⟨H, δ, M, _, ⟨TK.refl H, fun x u od σ' H' δ' M' k xr rs rm q => ?_, p.rs, p.rm⟩, w, ⟨le.nx, le.rt, le.bk, le.ct⟩⟩
    obtain ⟨b, hb', hy, hn⟩ := q
    refine ⟨b, by rw [xr.1]; exact hh _ _ hb', fun e a na => ?_, fun e => p.lf x u od σ' H' δ' M' (p.tk.trans k) xr rs rm (hn e)⟩
    refine ⟨x.cls, xr.1, H', δ'.set i (some (.ob a)), dictH od x.fs M', { nx := fun δ M => D'.nx (δ.set i none) M, rt := D'.rt, bk := fun δ M => D'.bk (δ.set i none) M, ct := fun δ M => D'.ct (δ.set i none) M }, ⟨TK.refl H', fun _ _ _ _ _ _ _ _ _ _ _ z => z, rs.set i rfl, ?_⟩, hy e a od (fun z => ?_) (fun z => ?_), ?_⟩
    · rcases xr.2 with ⟨_, rfl⟩ | ⟨d, gs, _, rfl, hd, hfs⟩
      · exact rm
      · intro p o e
        have e : upm M' d (.xd x.fs) p = some o := e
        by_cases q : p = d
        · subst q; rw [upm_same] at e; cases e; exact ⟨gs, hd, hfs⟩
        · rw [upm_ne q] at e; exact rm p o e
    · rcases xr.2 with ⟨_, rfl⟩ | ⟨d, gs, hne, _⟩
      · rfl
      · exact absurd z hne
    · rcases xr.2 with ⟨hz, _⟩ | ⟨d, gs, hne, rfl, hd, hfs⟩
      · exact absurd hz z
      · refine ⟨d, rfl, ?_⟩
        cases q : M' d with
        | none => exact .inl rfl
        | some o =>
          right
          have ro := rm d o q
          cases o with
          | lst ds => obtain ⟨_, e, _⟩ := ro; rw [hd] at e; cases e
          | ins C fs => obtain ⟨_, _, e, _⟩ := ro; rw [hd] at e; cases e
          | dic kvs => obtain ⟨_, e, _⟩ := ro; rw [hd] at e; cases e
          | dit kvs => obtain ⟨_, e, _⟩ := ro; rw [hd] at e; cases e
          | xd fs => exact ⟨fs, rfl⟩
    · exact ⟨fun σ2 H2 δ2 M2 k2 r2 m2 z => (le.tk k).nx _ _ _ _ k2 (r2.set_none i) m2 z, (le.tk k).rt, fun σ2 H2 δ2 M2 k2 r2 m2 z => (le.tk k).bk _ _ _ _ k2 (r2.set_none i) m2 z, fun σ2 H2 δ2 M2 k2 r2 m2 z => (le.tk k).ct _ _ _ _ k2 (r2.set_none i) m2 z⟩
end
section
/-- isinstance(e, T), e the exception that the clause keeps -/
noncomputable def isiK (K : PySem.W.Frag) (t : D) (C : Addr) : Option Bool := match t with
  | .ob X => isX K (.ref X) C
  | .ty n => isX K (.type n) C
  | _ => none
def exmK (K : PySem.W.Frag) (X C : Addr) : Option Bool := PySem.W.exmOne K (.ref C) (.ref X)
theorem isi_own {K : PySem.W.Frag} {C X : Addr} (h : ExcC K C) (hd : PySem.W.hasDictIn K X = true) (ht : PySem.W.typeIn K (.ref X) = some (.type "type")) (e : PySem.W.subIn K (.ref C) (.ref X) = some true) : isiK K (.ob X) C = some true := isX_of h (kit_own hd ht e)
theorem isi_ty {K : PySem.W.Frag} {C : Addr} {n : String} (h : ExcC K C) (hm : PySem.W.kitMeta n = true) (e : PySem.W.subIn K (.ref C) (.type n) = some true) : isiK K (.ty n) C = some true := by
  refine isX_of h ?_
  unfold PySem.W.kitOne
  split
  · rfl
  · show (if PySem.W.kitMeta n = true then PySem.W.subIn K (.ref C) (.type n) else none) = _
    rw [if_pos hm]; exact e
theorem exm_own {K : PySem.W.Frag} {C X : Addr} {b : Bool} (h1 : PySem.W.subIn K (.ref X) (.type "BaseException") = some true) (hd : PySem.W.hasDictIn K X = true) (ht : PySem.W.typeIn K (.ref X) = some (.type "type")) (h4 : PySem.W.subIn K (.ref C) (.ref X) = some b) : exmK K X C = some b := PySem.W.exm_ref h1 hd ht h4
theorem exm_ok {K : PySem.W.Frag} {e : Addr → Addr → Option Bool} {X : Addr} (h : e = exmK K) : ∀ C b, e X C = some b → PySem.W.exmOne K (.ref C) (.ref X) = some b := by subst h; exact fun _ _ z => z
def isED (it : D → Addr → Option Bool) (a C : Addr) (d : Option Addr) : D1L := fun ds M Q => match ds with
  | [.ob a', t] => a' = a ∧ d = none ∧ ∃ b, it t C = some b ∧ Q (.bl b) M
  | _ => False
theorem ol_isE {K : PySem.W.Frag} {it : D → Addr → Option Bool} (hit : it = isiK K) {a C : Addr} {d : Option Addr} : OL K (fun xs H Q => ExcC K C ∧ d = none ∧ rIsE K C a xs H Q) (isED it a C d) := by
  subst hit
  intro xs ds H M Q Q' r m w k
  unfold isED at w
  split at w
  · obtain ⟨v, u, rfl, r1, r2⟩ := rds2 r
    obtain ⟨rfl, rfl, b, e, w⟩ := w
    cases r1
    unfold isiK at e
    split at e
    · obtain ⟨x, e⟩ := isX_is e
      cases r2
      exact ⟨x, rfl, _, _, b, rfl, fun _ z => z, e, k _ H _ M (TK.refl H) RD.blI m w⟩
    · obtain ⟨x, e⟩ := isX_is e
      cases r2
      exact ⟨x, rfl, _, _, b, rfl, fun _ z => z, e, k _ H _ M (TK.refl H) RD.blI m w⟩
    · cases e
  · exact w.elim
theorem e_isE {it : D → Addr → Option Bool} {a a' C : Addr} {d : Option Addr} {t : D} {M : Mp} {Q : KD} : isED it a C d [.ob a', t] M Q = (a' = a ∧ d = none ∧ ∃ b, it t C = some b ∧ Q (.bl b) M) := rfl
theorem call_isED {X : Cx} {a C : Addr} {d : Option Addr} {oe : Obj} {pn : List (Addr × Obj)} (hz : Zc (.ref C) d oe) (hf : ∃ vs, oe.data = .fields vs) :
    CallR (X.suite a ((a, oe) :: pn)) (.builtin "isinstance") (fun xs H Q => ExcC X.K C ∧ d = none ∧ rIsE X.K C a xs H Q) := by
  intro pins s σ H xs us Q I r h
  obtain ⟨c, rfl, h⟩ := h
  exact call_isE c hz hf pins s σ H xs us Q I r h
/-- e.f -/
def wXf (a C : Addr) (d : Option Addr) (C0 : Addr) (f : Str) (we : DE) : DE := fun δ M Q E => we δ M (fun x M1 => x = .ob a ∧ C = C0 ∧ ∃ dd fs v, d = some dd ∧ M1 dd = some (.xd fs) ∧ fs.lookup f = some v ∧ Q v M1) E
theorem qe_xf {X : Cx} {W : WX} {a C C0 : Addr} {oe : Obj} {d : Option Addr} {pn : List (Addr × Obj)} {e : Expr} {we : DE} {pos : Pos} {n : Str} (T : XfC X.K C0) (hno : NoAttr X.K C0 n)
    (hz : Zc (.ref C) d oe) (hf : ∃ vs, oe.data = .fields vs) (he : QE (X.suite a ((a, oe) :: pn)) W e we) (hb : attributeBase e n X.env (eval e X.env) = eval e X.env := by rfl) :
    QE (X.suite a ((a, oe) :: pn)) W (.Attribute e n pos) (wXf a C d C0 n we) := by
  refine pe_weak (pe_xf (cls := .ref C) (d := d) T hno hz hf he hb) fun σ H Q h => ?_
  obtain ⟨H0, δ, M, Q', XX, p, w, k⟩ := h
  refine ⟨H0, δ, M, _, XX, p, w, ?_⟩
  intro v H1 x M1 k1 r1 m1 w1
  obtain ⟨rfl, rfl, dd, fs, y, rfl, hd, hl, q⟩ := w1
  cases r1
  obtain ⟨gs, hg, hfs⟩ := m1 _ _ hd
  obtain ⟨u, hu, ru⟩ := hfs.lookup hl
  exact ⟨rfl, rfl, dd, gs, u, rfl, hg, hu, k _ H1 _ M1 k1 ru m1 q⟩
end
end QL

namespace QL
open PySem PySem.Spec PyProof.Rows L2
/-! ### tuples of texts that the module has written -/
def GTup (K : PySem.W.Frag) (mg : Str → Option Value) (x : Str) (ds : List D) : Prop := ∃ p us, mg x = some (.ref p) ∧ (∀ H, SqT K H p us) ∧ ∀ H, RDs K H ds us
theorem gtup_of {K : PySem.W.Frag} {mg : Str → Option Value} {x : Str} {p : Addr} {dd : Option Addr} {nn : Nat} {ll : Array (Option Value)} (l : List (String × Tok)) (hl : l.length ≤ 1000) (m : mg x = some (.ref p))
    (o : K.lookup p = some ⟨.type "tuple", dd, .seq (l.map fun e => Value.str (Str.ofString e.1) e.2).toArray nn, ll⟩) : GTup K mg x (l.map fun e => .str (tx e.1)) := by
  refine ⟨p, l.map fun e => V.str (Str.ofString e.1), m, fun H => .inr ⟨_, _, _, o, rfl, rfl, by rw [sizeLine_eq]; simp; omega, ?_⟩, fun H => ?_⟩
  · show Vals _ (l.map _)
    clear o hl
    induction l with
    | nil => exact .nil
    | cons e l ih => exact .cons ⟨e.2, rfl⟩ ih
  · clear o hl
    induction l with
    | nil => rfl
    | cons e l ih => exact ⟨_, _, rfl, ⟨congrArg V.str (str_of e.1), okc_tx _⟩, ih⟩
section
variable {X : Cx} {W : WX} {a b c e o : Expr} {es : List Expr} {wa wb wo : DE} {ws : DA} {tc : DT} {pos : Pos}
theorem qe_gtup {x : Str} {ds : List D} (g : GTup X.K X.mg x ds) (hg : Gl X x) (hd : (x == ("__debug__" : Str)) = false := by decide +kernel) : QE X W (.Name x pos) (wC (.tup ds)) := by
  obtain ⟨p, us, m, s, r⟩ := g
  exact qe_glob (v := .ref p) (fun H => ⟨p, us, rfl, s H, r H⟩) hg m rfl hd
/-! ### a dict with text keys that the module has written -/
def GDic (w : World) (K : PySem.W.Frag) (mg : Str → Option Value) (x : Str) (ds : List (Tx × D)) : Prop :=
  ∃ p es n, mg x = some (.ref p) ∧ KDict K w p es n ∧ (∀ z v, ds.lookup z = some v → ∃ u v', PySem.W.nsIn K p ⟨z.toArray⟩ = some (some u) ∧ RelV v' u ∧ ∀ H, RD K H v v') ∧ ∀ z, ds.lookup z = none → PySem.W.nsIn K p ⟨z.toArray⟩ = some none
def dent (P : Params) (l : List (String × Tok × Int × Tok)) : List DictEntry := l.map fun e => ⟨PyData.keyHash P (Str.ofString e.1), .str (Str.ofString e.1) e.2.1, .int e.2.2.1 e.2.2.2⟩
theorem dent_lit {P : Params} : ∀ l, PySem.W.KeysLit P (dent P l)
  | [] => trivial
  | e :: l => ⟨⟨_, _, rfl, rfl⟩, dent_lit l⟩
theorem str_beq (s : String) (z : Tx) : (Str.ofString s == (⟨z.toArray⟩ : Str)) = (z == tx s) := by
  rw [str_of, Bool.eq_iff_iff, beq_iff_eq, beq_iff_eq]
  constructor
  · intro h; injection h with h; exact (Array.toList_inj.mpr h.symm : z = tx s)
  · intro h; rw [h]
theorem dent_find {P : Params} (z : Tx) : ∀ l, (dent P l).find? (fun e => e.key.isStr ⟨z.toArray⟩) = none ∧ (l.map fun e => (tx e.1, D.int e.2.2.1)).lookup z = none ∨
    ∃ e i t, (dent P l).find? (fun e => e.key.isStr ⟨z.toArray⟩) = some e ∧ e.val = .int i t ∧ (l.map fun e => (tx e.1, D.int e.2.2.1)).lookup z = some (.int i)
  | [] => .inl ⟨rfl, rfl⟩
  | e :: l => by
    have hs : (Value.str (Str.ofString e.1) e.2.1).isStr ⟨z.toArray⟩ = (z == tx e.1) := (show (Str.ofString e.1 == (⟨z.toArray⟩ : Str)) = _ from str_beq e.1 z)
    cases q : z == tx e.1 with
    | true =>
      rw [q] at hs
      refine .inr ⟨⟨PyData.keyHash P (Str.ofString e.1), .str (Str.ofString e.1) e.2.1, .int e.2.2.1 e.2.2.2⟩, _, _, ?_, rfl, ?_⟩
      · exact List.find?_cons_of_pos (p := fun e : DictEntry => e.key.isStr ⟨z.toArray⟩) (a := ⟨PyData.keyHash P (Str.ofString e.1), .str (Str.ofString e.1) e.2.1, .int e.2.2.1 e.2.2.2⟩) hs
      · rw [List.map_cons, List.lookup_cons, q]
    | false =>
      rw [q] at hs
      have h1 : (dent P (e :: l)).find? (fun e => e.key.isStr ⟨z.toArray⟩) = (dent P l).find? (fun e => e.key.isStr ⟨z.toArray⟩) := by
        exact List.find?_cons_of_neg (p := fun e : DictEntry => e.key.isStr ⟨z.toArray⟩) (a := ⟨PyData.keyHash P (Str.ofString e.1), .str (Str.ofString e.1) e.2.1, .int e.2.2.1 e.2.2.2⟩) (by rw [hs]; decide)
      rw [h1, List.map_cons, List.lookup_cons, q]
      exact dent_find z l
theorem dent_ref {P : Params} : ∀ l, (dent P l).any (fun e => e.refKey) = false
  | [] => rfl
  | e :: l => by
    show (_ || (dent P l).any _) = false
    rw [dent_ref l]; rfl
theorem gdic_of {w : World} {K : PySem.W.Frag} {mg : Str → Option Value} {x : Str} {p : Addr} {nn : Nat} (l : List (String × Tok × Int × Tok)) (m : mg x = some (.ref p)) (low : (p == sysModules) = false)
    (o : K.lookup p = some ⟨.type "dict", none, .dict (dent w.params l).toArray nn, #[]⟩) : GDic w K mg x (l.map fun e => (tx e.1, .int e.2.2.1)) := by
  have ns : ∀ z : Tx, PySem.W.nsIn K p ⟨z.toArray⟩ = match (dent w.params l).find? (fun e => e.key.isStr ⟨z.toArray⟩) with
      | some e => some (some e.val)
      | none => some none := fun z => by
    unfold PySem.W.nsIn
    rw [o]
    show (match (dent w.params l).toArray.toList.find? _ with | some e => some (some e.val) | none => if (dent w.params l).toArray.toList.any (·.refKey) then none else some none) = _
    rw [List.toList_toArray, dent_ref]
    rfl
  refine ⟨p, _, nn, m, ⟨o, by rw [List.toList_toArray]; exact dent_lit l, low⟩, fun z v h => ?_, fun z h => ?_⟩
  · rcases dent_find (P := w.params) z l with ⟨a, b⟩ | ⟨e, i, t, a, b, c⟩
    · rw [h] at b; cases b
    · rw [h] at c; cases c
      exact ⟨e.val, .int i, by rw [ns, a], by rw [b]; exact ⟨t, rfl⟩, fun _ => RD.intI⟩
  · rcases dent_find (P := w.params) z l with ⟨a, b⟩ | ⟨e, i, t, a, b, c⟩
    · rw [ns, a]
    · rw [h] at c; cases c
def wIxK (ds : List (Tx × D)) (wb : DE) : DE := fun δ M Q E => wb δ M (fun e M1 => ∃ z v, e = .str z ∧ ds.lookup z = some v ∧ Q v M1) E
def ixKD (p : Addr) (ds : List (Tx × D)) : D2 := fun d e M Q => d = .ob p ∧ ∃ z v, e = .str z ∧ ds.lookup z = some v ∧ Q v M
theorem qe_ixK {x : Str} {ds : List (Tx × D)} {np : Pos} (g : GDic X.w X.K X.mg x ds) (hg : Gl X x) (hb : QE X W b wb) (hs : PlainIx b := by intro _ _; rfl) (hd : (x == ("__debug__" : Str)) = false := by decide +kernel) :
    QE X W (.Subscript (.Name x np) b pos) (wIxK ds wb) := by
  obtain ⟨p, es, n, m, kd, k, _⟩ := g
  have hn : QE X W (.Name x np) (wC (.ob p)) := qe_glob (v := .ref p) (fun H => RD.obI) hg m rfl hd
  have o : O2 X.K (rIxD X.K X.w) (ixKD p ds) := by
    intro x y d e H M Q Q' r1 r2 rm w q
    obtain ⟨rfl, z, v, rfl, hl, w⟩ := w
    cases r1
    obtain ⟨rfl, _⟩ := r2
    obtain ⟨u, v', hv, rv, ru⟩ := k z v hl
    exact ⟨p, _, v', rfl, rfl, ⟨es, n, u, kd.at_, kd.lit, hv, rv⟩, q _ H _ M (TK.refl H) (ru H) rm w⟩
  have h : QE X W (.Subscript (.Name x np) b pos) (wOp (ixKD p ds) (wC (.ob p)) wb) := pe_weak (pe_ix ix_kdict hn hb hs) fun _ _ _ h => two o h
  refine pe_weak h fun σ H Q z => ?_
  obtain ⟨H0, δ, M, Q', XX, pr, w, kk⟩ := z
  refine ⟨H0, δ, M, Q', XX, pr, ?_, kk⟩
  have w : wb δ M (fun e M1 => ∃ z v, e = .str z ∧ ds.lookup z = some v ∧ Q' v M1) (fun x M => XX x δ M) := w
  show wb δ M (fun e M1 => ixKD p ds (.ob p) e M1 Q') (fun x M => XX x δ M)
  have e : (fun e M1 => ixKD p ds (.ob p) e M1 Q') = fun e M1 => ∃ z v, e = D.str z ∧ ds.lookup z = some v ∧ Q' v M1 := by
    funext e M1
    exact propext ⟨fun z => z.2, fun z => ⟨rfl, z⟩⟩
  rw [e]; exact w
/-- e in the dict, e not in it -/
def wInK (neg : Bool) (ds : List (Tx × D)) (wb : DE) : DE := fun δ M Q E => wb δ M (fun e M1 => ∃ z, e = .str z ∧ Q (.bl (xor neg (ds.lookup z).isSome)) M1) E
def inKD (neg : Bool) (p : Addr) (ds : List (Tx × D)) : D2 := fun e d M Q => d = .ob p ∧ ∃ z, e = .str z ∧ Q (.bl (xor neg (ds.lookup z).isSome)) M
theorem inK_shape {K : PySem.W.Frag} {W : WX} {neg : Bool} {p : Addr} {ds : List (Tx × D)} {wb : DE} {σ : L2.St} {H : Hp} {Q : VK} (z : cE K W (wInK neg ds wb) σ H Q) : cE K W (wOp (inKD neg p ds) wb (wC (.ob p))) σ H Q := by
  obtain ⟨H0, δ, M, Q', XX, pr, w, kk⟩ := z
  refine ⟨H0, δ, M, Q', XX, pr, ?_, kk⟩
  have w : wb δ M (fun e M1 => ∃ z, e = .str z ∧ Q' (.bl (xor neg (ds.lookup z).isSome)) M1) (fun x M => XX x δ M) := w
  show wb δ M (fun e M1 => inKD neg p ds e (.ob p) M1 Q') (fun x M => XX x δ M)
  have e : (fun e M1 => inKD neg p ds e (.ob p) M1 Q') = fun e M1 => ∃ z, e = D.str z ∧ Q' (.bl (xor neg (ds.lookup z).isSome)) M1 := by
    funext e M1
    exact propext ⟨fun z => z.2, fun z => ⟨rfl, z⟩⟩
  rw [e]; exact w
theorem inK_shapeT {K : PySem.W.Frag} {W : WX} {neg : Bool} {p : Addr} {ds : List (Tx × D)} {wb : DE} {σ : L2.St} {H : Hp} {Q : Bool → Hp → Prop} (z : cT K W (wTst (wInK neg ds wb)) σ H Q) : cT K W (wTst (wOp (inKD neg p ds) wb (wC (.ob p)))) σ H Q := by
  obtain ⟨H0, δ, M, Q', XX, pr, w, kk⟩ := z
  refine ⟨H0, δ, M, Q', XX, pr, ?_, kk⟩
  have w : wb δ M (fun e M1 => ∃ z, e = .str z ∧ ∃ k, D.bl (xor neg (ds.lookup z).isSome) = .bl k ∧ Q' k M1) (fun x M => XX x δ M) := w
  show wb δ M (fun e M1 => inKD neg p ds e (.ob p) M1 (fun d M' => ∃ k, d = .bl k ∧ Q' k M')) (fun x M => XX x δ M)
  have e : (fun e M1 => inKD neg p ds e (.ob p) M1 (fun d M' => ∃ k, d = .bl k ∧ Q' k M')) = fun e M1 => ∃ z, e = D.str z ∧ ∃ k, D.bl (xor neg (ds.lookup z).isSome) = .bl k ∧ Q' k M1 := by
    funext e M1
    exact propext ⟨fun z => z.2, fun z => ⟨rfl, z⟩⟩
  rw [e]; exact w
theorem o2_inK {w : World} {K : PySem.W.Frag} {mg : Str → Option Value} {p : Addr} {es : Array DictEntry} {n : Nat} {ds : List (Tx × D)} (k : ∀ z v, ds.lookup z = some v → ∃ u v', PySem.W.nsIn K p ⟨z.toArray⟩ = some (some u) ∧ RelV v' u ∧ ∀ H, RD K H v v')
    (k2 : ∀ z, ds.lookup z = none → PySem.W.nsIn K p ⟨z.toArray⟩ = some none) (neg : Bool) : O2 K (fun x y H Q => ∃ (z : Str) (r : Option Value), x = .str z ∧ y = .ref p ∧ PySem.W.nsIn K p z = some r ∧ Q (.bl (xor neg r.isSome)) H) (inKD neg p ds) := by
  intro x y d e H M Q Q' r1 r2 rm w q
  obtain ⟨rfl, z, rfl, w⟩ := w
  cases r2
  obtain ⟨rfl, _⟩ := r1
  cases hl : ds.lookup z with
  | none =>
    rw [hl] at w
    exact ⟨_, none, rfl, rfl, k2 z hl, q _ H _ M (TK.refl H) RD.blI rm w⟩
  | some v =>
    rw [hl] at w
    obtain ⟨u, v', hv, _, _⟩ := k z v hl
    exact ⟨_, some u, rfl, rfl, hv, q _ H _ M (TK.refl H) RD.blI rm w⟩
theorem op_inK {p : Addr} {es : Array DictEntry} {n : Nat} (kd : KDict X.K X.w p es n) : OpR X (compareOp .In) (fun x y H Q => ∃ (z : Str) (r : Option Value), x = .str z ∧ y = .ref p ∧ PySem.W.nsIn X.K p z = some r ∧ Q (.bl (xor false r.isSome)) H) := by
  intro pins s σ H x y v u Q I rx ry ⟨z, r, h1, h2, h3, h4⟩
  exact op_in_kd kd pins s σ H x y v u Q I rx ry ⟨z, r, h1, h2, h3, by rwa [Bool.false_xor] at h4⟩
theorem op_notInK {p : Addr} {es : Array DictEntry} {n : Nat} (kd : KDict X.K X.w p es n) : OpR X (compareOp .NotIn) (fun x y H Q => ∃ (z : Str) (r : Option Value), x = .str z ∧ y = .ref p ∧ PySem.W.nsIn X.K p z = some r ∧ Q (.bl (xor true r.isSome)) H) := by
  intro pins s σ H x y v u Q I rx ry ⟨z, r, h1, h2, h3, h4⟩
  exact op_notIn_kd kd pins s σ H x y v u Q I rx ry ⟨z, r, h1, h2, h3, by rwa [Bool.true_xor] at h4⟩
theorem qe_inK {x : Str} {ds : List (Tx × D)} {np : Pos} (g : GDic X.w X.K X.mg x ds) (hg : Gl X x) (hb : QE X W b wb) (hm : behindInMarks .In (.Name x np) = false := by with_unfolding_all rfl) (hd : (x == ("__debug__" : Str)) = false := by decide +kernel) : QE X W (.Compare b [.In] [.Name x np] pos) (wInK false ds wb) := by
  obtain ⟨p, es, n, m, kd, k, k2⟩ := g
  exact pe_weak (qe_cmp (op_inK kd) (o2_inK (w := X.w) (mg := X.mg) (es := es) (n := n) k k2 false) hb (qe_glob (v := .ref p) (fun H => RD.obI) hg m rfl hd) hm) fun σ H Q z => inK_shape z
theorem qe_notInK {x : Str} {ds : List (Tx × D)} {np : Pos} (g : GDic X.w X.K X.mg x ds) (hg : Gl X x) (hb : QE X W b wb) (hm : behindInMarks .NotIn (.Name x np) = false := by with_unfolding_all rfl) (hd : (x == ("__debug__" : Str)) = false := by decide +kernel) : QE X W (.Compare b [.NotIn] [.Name x np] pos) (wInK true ds wb) := by
  obtain ⟨p, es, n, m, kd, k, k2⟩ := g
  exact pe_weak (qe_cmp (op_notInK kd) (o2_inK (w := X.w) (mg := X.mg) (es := es) (n := n) k k2 true) hb (qe_glob (v := .ref p) (fun H => RD.obI) hg m rfl hd) hm) fun σ H Q z => inK_shape z
theorem qt_inK {x : Str} {ds : List (Tx × D)} {np : Pos} (g : GDic X.w X.K X.mg x ds) (hg : Gl X x) (hb : QE X W b wb) (hm : behindInMarks .In (.Name x np) = false := by with_unfolding_all rfl) (hd : (x == ("__debug__" : Str)) = false := by decide +kernel) : QT X W (.Compare b [.In] [.Name x np] pos) (wTst (wInK false ds wb)) := by
  obtain ⟨p, es, n, m, kd, k, k2⟩ := g
  exact pt_weak (qt_cmp (op_inK kd) (o2_inK (w := X.w) (mg := X.mg) (es := es) (n := n) k k2 false) hb (qe_glob (v := .ref p) (fun H => RD.obI) hg m rfl hd) hm) fun σ H Q z => inK_shapeT z
theorem qt_notInK {x : Str} {ds : List (Tx × D)} {np : Pos} (g : GDic X.w X.K X.mg x ds) (hg : Gl X x) (hb : QE X W b wb) (hm : behindInMarks .NotIn (.Name x np) = false := by with_unfolding_all rfl) (hd : (x == ("__debug__" : Str)) = false := by decide +kernel) : QT X W (.Compare b [.NotIn] [.Name x np] pos) (wTst (wInK true ds wb)) := by
  obtain ⟨p, es, n, m, kd, k, k2⟩ := g
  exact pt_weak (qt_cmp (op_notInK kd) (o2_inK (w := X.w) (mg := X.mg) (es := es) (n := n) k k2 true) hb (qe_glob (v := .ref p) (fun H => RD.obI) hg m rfl hd) hm) fun σ H Q z => inK_shapeT z
/-! ### max of a pair of ints -/
theorem max_tup2 {prog : Program} {w : World} {A : Around} {E : Value → Shared → Prop} {s : Shared} {p : Addr} {i j : Int} {t u : Tok} {Q : Value → Shared → Prop} (hh : A.handled = none) (hT : s.heap.IsTuple p (intItems #[(i, t), (j, u)]))
    (h : ∀ h' tk, (∀ c o, s.heap.get? c = some o → h'.get? c = some o) → Q (if j > i then .int j u else .int i t) { s with heap := h', toks := tk }) :
    wpAny (model prog w) A (call (.builtin "max") [.ref p]) Q E s := by
  have hp : p < s.heap.objs.size := by
    obtain ⟨o, ho, _⟩ := hT
    exact Heap.lt_size ho
  refine call_max_walk (wpAny_pyIter_tuple hT ?_)
  refine ⟨_, [_, p], [_], _, _, _, _, rfl, Walks.tuple (A := A.in1) hh _ p (Nat.ne_of_lt hp) (intItems #[(i, t), (j, u)]), ⟨⟨_, Heap.get?_push_size _ rfl, rfl, rfl⟩, hT.push _⟩, fun c hc => ?_, by simp [intItems],
    CmpOf.ints_gt (numAt #[(i, t), (j, u)]) (fun _ _ => intItems_at), fun v h' tk hP hk => ?_⟩
  · show c < (s.heap.push _).objs.size
    rw [Heap.size_push]
    rcases List.mem_cons.mp hc with rfl | hc
    · exact Nat.lt_succ_self _
    · rw [List.mem_singleton.mp hc]; exact Nat.lt_succ_of_lt hp
  · have old : ∀ c o, s.heap.get? c = some o → h'.get? c = some o := fun c o e => by
      refine hk c o (fun hm => ?_) (Heap.get?_push_of_some _ e)
      have := Heap.lt_size e
      rw [List.mem_singleton.mp hm] at this
      exact Nat.lt_irrefl _ this
    have q := h h' tk old
    have hv : v = if j > i then Value.int j u else Value.int i t := by
      have z2 : (intItems #[(i, t), (j, u)]).size - 1 = 1 := by simp [intItems]
      rw [z2] at hP
      by_cases g : j > i
      · have e : argBest (fun x y => decide (numAt #[(i, t), (j, u)] x > numAt #[(i, t), (j, u)] y)) 1 = 1 := by simp [argBest, numAt, g]
        have hP : (intItems #[(i, t), (j, u)])[argBest (fun x y => decide (numAt #[(i, t), (j, u)] x > numAt #[(i, t), (j, u)] y)) 1]? = some v := hP
        rw [e] at hP
        simpa [intItems, g] using hP.symm
      · have e : argBest (fun x y => decide (numAt #[(i, t), (j, u)] x > numAt #[(i, t), (j, u)] y)) 1 = 0 := by simp [argBest, numAt, g]
        have hP : (intItems #[(i, t), (j, u)])[argBest (fun x y => decide (numAt #[(i, t), (j, u)] x > numAt #[(i, t), (j, u)] y)) 1]? = some v := hP
        rw [e] at hP
        simpa [intItems, g] using hP.symm
    rw [hv]; exact q
def rMaxT2 (K : PySem.W.Frag) : List V → Hp → VK → Prop := fun xs H Q => ∃ p i j, xs = [.ref p] ∧ SqT K H p [.int i, .int j] ∧ Q (.int (if j > i then j else i)) H
theorem call_maxT (hc : X.calm = true) : CallR X (.builtin "max") (rMaxT2 X.K) := by
  intro pins s σ H xs us Q I r h
  obtain ⟨p, i, j, rfl, hs, q⟩ := h
  obtain ⟨its, rv, ⟨o, ho, hcl, n, hd⟩, _⟩ := I.tuple hs
  rw [Vals.ref1 r]
  obtain ⟨t, u, rfl⟩ := Vals.int2 rv
  refine max_tup2 (i := i) (j := j) (t := t) (u := u) (I.ok.hd hc) ⟨o, ho, hcl, n, by simpa [intItems] using hd⟩ fun h' tk k => ⟨_, H, I.kept k, ?_, q⟩
  by_cases g : j > i
  · rw [if_pos g, if_pos g]; exact ⟨_, rfl⟩
  · rw [if_neg g, if_neg g]; exact ⟨_, rfl⟩
def maxTD : D1L := fun ds M Q => match ds with
  | [.tup [.int i, .int j]] => Q (.int (max i j)) M
  | _ => False
theorem ol_maxT {K : PySem.W.Frag} : OL K (rMaxT2 K) maxTD := by
  intro xs ds H M Q Q' r m w k
  unfold maxTD at w
  split at w
  · rename_i i j
    obtain ⟨v, rfl, ⟨a, us, rfl, s, t⟩⟩ := rds1 r
    obtain ⟨v, u, rfl, rfl, rfl⟩ := rds2 t
    have e : (if j > i then j else i) = max i j := by split <;> omega
    exact ⟨a, i, j, rfl, s, k _ H _ M (TK.refl H) (by rw [e]; exact RD.intI) m w⟩
  · exact w.elim
theorem e_maxT {i j : Int} {M : Mp} {Q : KD} : maxTD [.tup [.int i, .int j]] M Q = Q (.int (max i j)) M := rfl
/-! ### f-strings -/
def fmtD (d : D) (M : Mp) (Q : KD) : Prop := match d with
  | .str y => y.length ≤ sizeLine ∧ Q (.str y) M
  | .int i => i.natAbs < 2 ^ 1000 ∧ Q (.str (tx (toString i))) M
  | _ => False
theorem e_fmt_s {y : Tx} {M : Mp} {Q : KD} : fmtD (.str y) M Q = (y.length ≤ sizeLine ∧ Q (.str y) M) := rfl
theorem e_fmt_i {i : Int} {M : Mp} {Q : KD} : fmtD (.int i) M Q = (i.natAbs < 2 ^ 1000 ∧ Q (.str (tx (toString i))) M) := rfl
def wFmt (we : DE) : DE := fun δ M Q E => we δ M (fun d M1 => fmtD d M1 Q) E
theorem qj_val (he : QE X W e wa) : QE X W (.FormattedValue e (-1) none pos) (wFmt wa) := by
  refine pe_weak (pe_fmt he) fun σ H Q h => ?_
  obtain ⟨H0, δ, M, Q', XX, p, w, k⟩ := h
  refine ⟨H0, δ, M, _, XX, p, w, ?_⟩
  intro v H1 x M1 k1 r1 m1 w1
  revert w1
  unfold fmtD
  split
  · intro w1
    obtain ⟨rfl, ok⟩ := r1
    exact .inl ⟨_, rfl, by rw [str_len]; exact w1.1, k _ H1 _ M1 k1 (RD.strI ok) m1 w1.2⟩
  · intro w1
    cases r1
    refine .inr ⟨_, rfl, log_small w1.1, k _ H1 _ M1 k1 ?_ m1 w1.2⟩
    show _ = V.str _ ∧ _
    exact ⟨congrArg V.str (str_of _), okc_tx _⟩
  · intro w1; exact w1.elim
inductive QJ (X : Cx) (W : WX) : List Expr → List DE → Prop where
  | nil : QJ X W [] []
  | cons {e : Expr} {w : DE} {es : List Expr} {ws : List DE} (h : QE X W e w) (r : QJ X W es ws) : QJ X W (e :: es) (w :: ws)
theorem QJ.pj {es : List Expr} {ws : List DE} (h : QJ X W es ws) : PJ X es (ws.map (cE X.K W)) := by
  induction h with
  | nil => exact .nil
  | cons h r ih => exact .cons h ih
def wJ : List DE → Tx → DE
  | [], acc => fun δ M Q E => Q (.str acc) M
  | w :: ws, acc => fun δ M Q E => w δ M (fun d M1 => ∃ y, d = .str y ∧ (acc ++ y).length ≤ sizeLine ∧ wJ ws (acc ++ y) δ M1 Q E) E
theorem js_of {K : PySem.W.Frag} : ∀ {ws : List DE} {acc : Tx} {σ : L2.St} {H : Hp} {Q : VK}, okc acc → cE K W (wJ ws acc) σ H Q → tJs (ws.map (cE K W)) ⟨acc.toArray⟩ σ H (fun out H1 => Q (.str out) H1)
  | [], acc, σ, H, Q, ok, h => by
    obtain ⟨H0, δ, M, Q', XX, p, w, k⟩ := h
    exact k _ H _ M (TK.refl H) (RD.strI ok) p.rm w
  | w :: ws, acc, σ, H, Q, ok, h => by
    obtain ⟨H0, δ, M, Q', XX, p, w, k⟩ := h
    refine ⟨H0, δ, M, _, XX, p, w, ?_⟩
    intro v H1 d M1 k1 r1 m1 w1
    obtain ⟨y, rfl, hl, w1⟩ := w1
    obtain ⟨rfl, oky⟩ := r1
    have e : (⟨acc.toArray⟩ : Str) ++ ⟨y.toArray⟩ = ⟨(acc ++ y).toArray⟩ := by
      show (⟨acc.toArray ++ y.toArray⟩ : Str) = _
      simp
    refine ⟨_, rfl, by rw [e, str_len]; exact hl, ?_⟩
    rw [e]
    exact js_of (okc_append ok oky) ⟨H0, δ, M1, Q', XX, p.step k1 m1, w1, fun v H' d M' k2 => k v H' d M' (k1.trans k2)⟩
theorem qe_fstr {v1 v2 : Expr} {rest : List Expr} {ws : List DE} (h : QJ X W (v1 :: v2 :: rest) ws) : QE X W (.JoinedStr (v1 :: v2 :: rest) pos) (wJ ws []) :=
  pe_weak (pe_joined h.pj) fun σ H Q z => js_of (fun c hc => by cases hc) z
end
end QL

namespace QL
open PySem PySem.Spec PyProof.Rows L2 PySem.NumText
/-! ### small things for readings -/
theorem atI_cast {α : Type} (xs : List α) (n : Nat) : atI xs (n : Int) = xs[n]? := by
  unfold atI ixN
  rw [if_pos (by omega)]
  by_cases h : (n : Int) < xs.length
  · rw [if_pos h]
    simp
  · rw [if_neg h]
    rw [List.getElem?_eq_none (by omega)]; rfl
theorem atI_0 {α : Type} (x : α) (xs : List α) : atI (x :: xs) 0 = some x := (atI_cast (x :: xs) 0).trans rfl
theorem atI_1 {α : Type} (x y : α) (xs : List α) : atI (x :: y :: xs) 1 = some y := (atI_cast (x :: y :: xs) 1).trans rfl
theorem atI_2 {α : Type} (x y z : α) (xs : List α) : atI (x :: y :: z :: xs) 2 = some z := (atI_cast (x :: y :: z :: xs) 2).trans rfl
theorem atI_3 {α : Type} (x y z u : α) (xs : List α) : atI (x :: y :: z :: u :: xs) 3 = some u := (atI_cast (x :: y :: z :: u :: xs) 3).trans rfl
theorem atI_l {α : Type} (x : α) (xs : List α) : atI (xs ++ [x]) (-1) = some x := atI_last xs x
theorem cut_nat {α : Type} (xs : List α) (i j : Nat) (hi : i ≤ xs.length) : cut xs (some (i : Int)) (some (j : Int)) = (xs.drop i).take (j - i) := by
  unfold cut
  rw [HT.sIx_nat, HT.sIx_nat, Nat.min_eq_left hi]
  by_cases h : j ≤ xs.length
  · rw [Nat.min_eq_left h]
  · rw [Nat.min_eq_right (by omega), List.take_of_length_le (by simp), List.take_of_length_le (by simp; omega)]
theorem cut_from {α : Type} (xs : List α) (i : Nat) (hi : i ≤ xs.length) : cut xs (some (i : Int)) none = xs.drop i := by
  unfold cut
  rw [HT.sIx_nat, HT.sIx_none, Nat.min_eq_left hi, List.take_of_length_le (by simp)]
theorem cut_to {α : Type} (xs : List α) (j : Nat) : cut xs none (some (j : Int)) = xs.take j := by
  unfold cut
  rw [HT.sIx_nat, HT.sIx_none, Nat.sub_zero, List.drop_zero]
  by_cases h : j ≤ xs.length
  · rw [Nat.min_eq_left h]
  · rw [Nat.min_eq_right (by omega), List.take_of_length_le (Nat.le_refl _), List.take_of_length_le (by omega)]
theorem ixN_nat {n j : Nat} (h : j < n) : ixN n (j : Int) = some j := by
  unfold ixN
  rw [if_pos (by omega), if_pos (by omega)]; simp
theorem line_eq : sizeLine = 16777216 := sizeLine_eq
/-! ### signs of a line: the mirror -/
def LET : Tx := tx "abcdefghijklmnopqrstuvwxyz"
def DIG : Tx := tx "0123456789"
def SYM : Tx := tx "(){}:=+-*<"
/-- how many of the first are of a kind -/
def spn (cs : Tx) (l : Tx) : Nat := (l.takeWhile fun c => decide (c ∈ cs)).length
theorem spn_nil (cs : Tx) : spn cs [] = 0 := rfl
theorem spn_in {cs : Tx} {c : Nat} {l : Tx} (h : c ∈ cs) : spn cs (c :: l) = spn cs l + 1 := by
  unfold spn; rw [List.takeWhile_cons, if_pos (decide_eq_true h)]; rfl
theorem spn_out {cs : Tx} {c : Nat} {l : Tx} (h : ¬ c ∈ cs) : spn cs (c :: l) = 0 := by
  unfold spn; rw [List.takeWhile_cons, if_neg (by simpa using h)]; rfl
theorem spn_le (cs l : Tx) : spn cs l ≤ l.length := by
  induction l with
  | nil => exact Nat.le_refl _
  | cons c l ih =>
    by_cases h : c ∈ cs
    · rw [spn_in h]; simp; exact ih
    · rw [spn_out h]; omega
theorem spn_mem {cs l : Tx} : ∀ c ∈ l.take (spn cs l), c ∈ cs := by
  induction l with
  | nil => intro c h; simp at h
  | cons a l ih =>
    intro c h
    by_cases ha : a ∈ cs
    · rw [spn_in ha, List.take_succ_cons] at h
      rcases List.mem_cons.mp h with e | e
      · rw [e]; exact ha
      · exact ih c e
    · rw [spn_out ha] at h; simp at h
theorem spn_stop {cs l : Tx} {c : Nat} (h : l[spn cs l]? = some c) : ¬ c ∈ cs := by
  induction l with
  | nil => simp at h
  | cons a l ih =>
    by_cases ha : a ∈ cs
    · rw [spn_in ha] at h; exact ih (by simpa using h)
    · rw [spn_out ha] at h
      simp at h; subst h; exact ha
theorem spn_app {cs a b : Tx} (ha : ∀ c ∈ a, c ∈ cs) (hb : ∀ c, b.head? = some c → ¬ c ∈ cs) : spn cs (a ++ b) = a.length := by
  induction a with
  | nil =>
    cases b with
    | nil => rfl
    | cons c b => exact spn_out (hb c rfl)
  | cons c a ih =>
    rw [List.cons_append, spn_in (ha c (by simp)), ih fun d hd => ha d (List.mem_cons_of_mem _ hd)]; rfl
def numB (ds : Tx) (lo hi : Int) : Option Int :=
  if ds = [] ∨ 7 < ds.length ∨ (ds.head? = some 48 ∧ 1 < ds.length) then none
  else if lo ≤ (digitsVal ds : Nat) ∧ ((digitsVal ds : Nat) : Int) ≤ hi then some ((digitsVal ds : Nat) : Int) else none
/-- the length of the word that stands first -/
def wordLen (l : Tx) : Option Nat :=
  if 8 < spn LET l then none
  else if l[spn LET l]? = some 46 then
    (if (numB ((l.drop (spn LET l + 1)).take (spn DIG (l.drop (spn LET l + 1)))) 2 99).isSome then some (spn LET l + 1 + spn DIG (l.drop (spn LET l + 1))) else none)
  else some (spn LET l)
def dW (w : Tx) : QL.D := .tup [.str (tx "word"), .str w]
def dN (n : Int) : QL.D := .tup [.str (tx "number"), .int n]
def dY (c : Nat) : QL.D := .tup [.str (tx "symbol"), .str [c]]
/-- the sign (none for a space) that stands first, and its length -/
def lex1 (c : Nat) (r : Tx) : Option (List QL.D × Nat) :=
  if c ∈ LET then (wordLen (c :: r)).map fun k => ([dW ((c :: r).take k)], k)
  else if c ∈ DIG then (numB ((c :: r).take (spn DIG (c :: r))) 0 1000000).map fun n => ([dN n], spn DIG (c :: r))
  else if c ∈ SYM then some ([dY c], 1)
  else if c = 32 then some ([], 1)
  else none
def lexF : Nat → Tx → Option (List QL.D)
  | 0, _ => some []
  | _ + 1, [] => some []
  | n + 1, c :: r => match lex1 c r with
    | none => none
    | some (t, k) => (lexF n ((c :: r).drop k)).map (t ++ ·)
def lex (l : Tx) : Option (List QL.D) := lexF l.length l
theorem wordLen_pos {c : Nat} {r : Tx} {k : Nat} (hc : c ∈ LET) (h : wordLen (c :: r) = some k) : 1 ≤ k ∧ k ≤ (c :: r).length := by
  unfold wordLen at h
  have h1 := spn_le LET (c :: r)
  have h0 : 1 ≤ spn LET (c :: r) := by rw [spn_in hc]; omega
  generalize spn LET (c :: r) = s at *
  split at h
  · cases h
  · split at h
    · rename_i e
      have h2 := spn_le DIG ((c :: r).drop (s + 1))
      have h3 : s < (c :: r).length := (List.getElem?_eq_some_iff.mp e).1
      split at h
      · cases h
        rw [List.length_drop] at h2
        omega
      · cases h
    · cases h; omega
theorem lex1_pos {c : Nat} {r : Tx} {t : List QL.D} {k : Nat} (h : lex1 c r = some (t, k)) : 1 ≤ k ∧ k ≤ (c :: r).length ∧ t.length ≤ 1 := by
  unfold lex1 at h
  split at h
  · rename_i hc
    cases e : wordLen (c :: r) with
    | none => rw [e] at h; cases h
    | some j =>
      rw [e] at h; cases h
      have := wordLen_pos hc e
      exact ⟨this.1, this.2, Nat.le_refl _⟩
  · split at h
    · rename_i hc
      cases e : numB ((c :: r).take (spn DIG (c :: r))) 0 1000000 with
      | none => rw [e] at h; cases h
      | some j =>
        rw [e] at h; cases h
        have h1 := spn_le DIG (c :: r)
        have h2 : 1 ≤ spn DIG (c :: r) := by rw [spn_in hc]; omega
        exact ⟨h2, h1, Nat.le_refl _⟩
    · split at h
      · cases h; simp
      · split at h
        · cases h; simp
        · cases h
theorem lexF_more : ∀ (n m : Nat) (l : Tx), l.length ≤ n → n ≤ m → lexF m l = lexF n l
  | 0, m, l, h, _ => by
    have : l = [] := List.eq_nil_of_length_eq_zero (by omega)
    subst this
    cases m <;> rfl
  | n + 1, m + 1, [], _, _ => rfl
  | n + 1, m + 1, c :: r, h, hm => by
    show (match lex1 c r with | none => none | some (t, k) => (lexF m ((c :: r).drop k)).map (t ++ ·)) = (match lex1 c r with | none => none | some (t, k) => (lexF n ((c :: r).drop k)).map (t ++ ·))
    cases e : lex1 c r with
    | none => rfl
    | some p =>
      obtain ⟨t, k⟩ := p
      have hp := lex1_pos e
      have : lexF m ((c :: r).drop k) = lexF n ((c :: r).drop k) := lexF_more n m _ (by rw [List.length_drop]; simp only [List.length_cons] at h ⊢; omega) (by omega)
      simp only [this]
theorem lex_cons (c : Nat) (r : Tx) : lex (c :: r) = match lex1 c r with
    | none => none
    | some (t, k) => (lex ((c :: r).drop k)).map (t ++ ·) := by
  unfold lex
  show (match lex1 c r with | none => none | some (t, k) => (lexF r.length ((c :: r).drop k)).map (t ++ ·)) = _
  cases e : lex1 c r with
  | none => rfl
  | some p =>
    obtain ⟨t, k⟩ := p
    have hp := lex1_pos e
    have : lexF r.length ((c :: r).drop k) = lexF ((c :: r).drop k).length ((c :: r).drop k) := lexF_more _ _ _ (Nat.le_refl _) (by rw [List.length_drop]; simp only [List.length_cons]; omega)
    simp only [this]
theorem lex_nil : lex [] = some [] := rfl
theorem digits_mem {c : Nat} (h : c ∈ DIG) : 48 ≤ c ∧ c ≤ 57 := by
  have : ∀ c ∈ DIG, 48 ≤ c ∧ c ≤ 57 := by decide
  exact this c h
theorem mem_digits {c : Nat} (h : 48 ≤ c ∧ c ≤ 57) : c ∈ DIG := by
  have : ∀ c : Fin 58, 48 ≤ c.val → c.val ∈ DIG := by decide
  exact this ⟨c, by omega⟩ h.1
theorem digits_all {l : Tx} (h : ∀ c ∈ l, c ∈ DIG) : AllDigits l := fun c hc => digits_mem (h c hc)
theorem int_text {l : Tx} (h : AllDigits l) (hne : l ≠ []) (hl : l.length ≤ 4300) : PySem.intText? ⟨l.toArray⟩ = some ((digitsVal l : Nat) : Int) := by
  have := intText_digits (x := ⟨l.toArray⟩) (by simpa using h) (by simpa using hne) (by rw [str_len]; exact hl)
  simpa using this
end QL

namespace QL
open PySem PySem.Spec PyProof.Rows L2
/-! ### a heap that has grown, and changed at one place at most -/
def Ext (q : Addr) (M M' : Mp) : Prop := ∀ a o, a ≠ q → M a = some o → M' a = some o
theorem Ext.refl (q : Addr) (M : Mp) : Ext q M M := fun _ _ _ h => h
theorem Ext.trans {q : Addr} {M M1 M2 : Mp} (a : Ext q M M1) (b : Ext q M1 M2) : Ext q M M2 := fun c o n h => b c o n (a c o n h)
theorem Ext.new {q p : Addr} {M M' : Mp} {o : MO} (a : Ext q M M') (h : M' p = none) : Ext q M (upm M' p o) := fun c u n e => by
  have z := a c u n e
  rw [upm_ne (mne z h)]; exact z
/-- an object that M did not have is written -/
theorem Ext.own {q p : Addr} {M M' : Mp} {o : MO} (a : Ext q M M') (h : M p = none) : Ext q M (upm M' p o) := fun c u n e => by
  rw [upm_ne (mne e h)]; exact a c u n e
theorem Ext.at {q : Addr} {M M' : Mp} {o : MO} (a : Ext q M M') : Ext q M (upm M' q o) := fun c u n e => by
  rw [upm_ne n]; exact a c u n e
theorem Ext.sub {q : Addr} {M M' : Mp} (a : Sub M M') : Ext q M M' := fun c u _ e => a c u e
theorem FnD.none {P : Program} {w : World} {K : PySem.W.Frag} {mg : Str → Option Value} {base : Heap} {k : Nat} {f : Addr} {fd : FuncData} {ps : List Str} : FnD P w K mg base k f fd ps (fun _ _ _ _ => False) :=
  ⟨fun _ _ _ _ ⟨_, _, _, _, _, _, z, _⟩ => z.elim, fun _ _ _ _ _ _ _ _ _ _ _ _ _ ⟨_, _, _, _, _, _, z, _⟩ => z.elim⟩
/-! ### the drawn digits: a list of digits, and a list that has the place -/
structure Stm (s p q : Addr) (xs : List Int) (M : Mp) : Prop where
  hs : M s = some (.lst [.ob p, .ob q])
  hp : M p = some (.lst (xs.map .int))
  hq : ∃ i : Int, 0 ≤ i ∧ M q = some (.lst [.int i])
  sq : s ≠ q
  pq : p ≠ q
  ne : xs ≠ []
  bd : ∀ x ∈ xs, 0 ≤ x ∧ x < 60
theorem Stm.ext {s p q : Addr} {xs : List Int} {M M' : Mp} (h : Stm s p q xs M) (e : Ext q M M') (hq : ∃ i : Int, 0 ≤ i ∧ M' q = some (.lst [.int i])) : Stm s p q xs M' :=
  ⟨e _ _ h.sq h.hs, e _ _ h.pq h.hp, hq, h.sq, h.pq, h.ne, h.bd⟩
/-- behind some draws -/
def Drawn (s p q : Addr) (xs : List Int) (M M' : Mp) : Prop := Ext q M M' ∧ Stm s p q xs M'
theorem Drawn.trans {s p q : Addr} {xs : List Int} {M M1 M2 : Mp} (a : Drawn s p q xs M M1) (b : Drawn s p q xs M1 M2) : Drawn s p q xs M M2 := ⟨a.1.trans b.1, b.2⟩
theorem Stm.drawn {s p q : Addr} {xs : List Int} {M : Mp} (h : Stm s p q xs M) : Drawn s p q xs M M := ⟨Ext.refl q M, h⟩
theorem mne' {M : Mp} {a b : Addr} {o : MO} (h : M a = some o) (h' : M b = none) : b ≠ a := (mne h h').symm
theorem Stm.neq {s p q a : Addr} {xs : List Int} {M : Mp} (h : Stm s p q xs M) (e : M a = none) : a ≠ q ∧ a ≠ p ∧ a ≠ s := by
  obtain ⟨i, _, hq⟩ := h.hq
  exact ⟨mne' hq e, mne' h.hp e, mne' h.hs e⟩
theorem Stm.new {s p q a : Addr} {xs : List Int} {M : Mp} {o : MO} (h : Stm s p q xs M) (e : M a = none) : Stm s p q xs (upm M a o) := by
  obtain ⟨n1, n2, n3⟩ := h.neq e
  obtain ⟨i, h0, hq⟩ := h.hq
  exact ⟨by rw [upm_ne (Ne.symm n3)]; exact h.hs, by rw [upm_ne (Ne.symm n2)]; exact h.hp, ⟨i, h0, by rw [upm_ne (Ne.symm n1)]; exact hq⟩, h.sq, h.pq, h.ne, h.bd⟩
theorem Stm.put {s p q a : Addr} {xs : List Int} {M : Mp} {o : MO} (h : Stm s p q xs M) (n1 : a ≠ q) (n2 : a ≠ p) (n3 : a ≠ s) : Stm s p q xs (upm M a o) := by
  obtain ⟨i, h0, hq⟩ := h.hq
  exact ⟨by rw [upm_ne (Ne.symm n3)]; exact h.hs, by rw [upm_ne (Ne.symm n2)]; exact h.hp, ⟨i, h0, by rw [upm_ne (Ne.symm n1)]; exact hq⟩, h.sq, h.pq, h.ne, h.bd⟩
/-! ### equal data -/
/-- no row is longer -/
def okL : QL.D → Bool
  | .tup xs => decide (xs.length ≤ 1000000) && okLs xs
  | .fl xs => decide (xs.length ≤ 1000000) && okLs xs
  | _ => true
where okLs : List QL.D → Bool
  | [] => true
  | x :: xs => okL x && okLs xs
mutual
theorem deq_self : ∀ {n : Nat} {d : QL.D}, okN n d = true → deq d d = true
  | _, .non, _ => rfl
  | _, .bl b, _ => by simp [deq, toP, PyData.eqv]
  | _, .int i, _ => by rw [deq_int]; simp
  | _, .str s, _ => by rw [deq_str]; simp
  | 0, .tup xs, h => by simp [okN] at h
  | n + 1, .tup xs, h => by
    show PyData.eqvAll (toP.toPs xs) (toP.toPs xs) = true
    exact deqs_self (n := n) (by simpa [okN] using h)
  | 0, .fl xs, h => by simp [okN] at h
  | n + 1, .fl xs, h => by
    show PyData.eqvAll (toP.toPs xs) (toP.toPs xs) = true
    exact deqs_self (n := n) (by simpa [okN] using h)
  | _, .ob _, h => by simp [okN] at h
  | _, .ty _, h => by simp [okN] at h
  | _, .any, h => by simp [okN] at h
theorem deqs_self : ∀ {n : Nat} {ds : List QL.D}, okN.okNs n ds = true → PyData.eqvAll (toP.toPs ds) (toP.toPs ds) = true
  | _, [], _ => rfl
  | n, d :: ds, h => by
    have h' : okN n d = true ∧ okN.okNs n ds = true := by simpa [okN.okNs] using h
    show (PyData.eqv (toP d) (toP d) && _) = true
    rw [show PyData.eqv (toP d) (toP d) = true from deq_self h'.1, deqs_self h'.2]; rfl
end
theorem okNs_get {n : Nat} : ∀ {ds : List QL.D} {i : Nat} {d : QL.D}, okN.okNs n ds = true → ds[i]? = some d → okN n d = true
  | [], _, _, _, e => by simp at e
  | x :: xs, 0, d, h, e => by
    have h' : okN n x = true ∧ okN.okNs n xs = true := by simpa [okN.okNs] using h
    simp at e; subst e; exact h'.1
  | x :: xs, i + 1, d, h, e => by
    have h' : okN n x = true ∧ okN.okNs n xs = true := by simpa [okN.okNs] using h
    exact okNs_get (i := i) h'.2 (by simpa using e)
theorem okLs_get : ∀ {ds : List QL.D} {i : Nat} {d : QL.D}, okL.okLs ds = true → ds[i]? = some d → okL d = true
  | [], _, _, _, e => by simp at e
  | x :: xs, 0, d, h, e => by
    have h' : okL x = true ∧ okL.okLs xs = true := by simpa [okL.okLs] using h
    simp at e; subst e; exact h'.1
  | x :: xs, i + 1, d, h, e => by
    have h' : okL x = true ∧ okL.okLs xs = true := by simpa [okL.okLs] using h
    exact okLs_get (i := i) h'.2 (by simpa using e)
mutual
theorem okN_mono : ∀ {n m : Nat} {d : QL.D}, okN n d = true → n ≤ m → okN m d = true
  | _, _, .non, _, _ => by simp [okN]
  | _, _, .bl b, _, _ => by simp [okN]
  | _, _, .int i, _, _ => by simp [okN]
  | _, _, .str s, _, _ => by simp [okN]
  | 0, _, .tup xs, h, _ => by simp [okN] at h
  | n + 1, m + 1, .tup xs, h, hm => by
    have := okNs_mono (n := n) (m := m) (ds := xs) (by simpa [okN] using h) (by omega)
    simpa [okN] using this
  | 0, _, .fl xs, h, _ => by simp [okN] at h
  | n + 1, m + 1, .fl xs, h, hm => by
    have := okNs_mono (n := n) (m := m) (ds := xs) (by simpa [okN] using h) (by omega)
    simpa [okN] using this
  | _, _, .ob _, h, _ => by simp [okN] at h
  | _, _, .ty _, h, _ => by simp [okN] at h
  | _, _, .any, h, _ => by simp [okN] at h
theorem okNs_mono : ∀ {n m : Nat} {ds : List QL.D}, okN.okNs n ds = true → n ≤ m → okN.okNs m ds = true
  | _, _, [], _, _ => rfl
  | n, m, d :: ds, h, hm => by
    have h' : okN n d = true ∧ okN.okNs n ds = true := by simpa [okN.okNs] using h
    simp [okN.okNs, okN_mono h'.1 hm, okNs_mono h'.2 hm]
end
end QL

namespace QL
open PySem PySem.Spec PyProof.Rows L2 PySem.NumText
/-! ### texts of numbers -/
def numT (n : Nat) : Tx := (Nat.toDigits 10 n).map Char.toNat
theorem tx_num (n : Nat) : tx (toString ((n : Nat) : Int)) = numT n := by
  have h := PySem.W.KIN.signs_num n
  rw [str_of] at h
  unfold numT
  simpa using h
theorem dig_mem {d : Nat} (h : d < 10) : (Nat.digitChar d).toNat ∈ DIG := by
  have : ∀ d : Fin 10, (Nat.digitChar d.val).toNat ∈ DIG := by decide
  exact this ⟨d, h⟩
theorem dig_val {d : Nat} (h : d < 10) : (Nat.digitChar d).toNat = 48 + d := by
  have : ∀ d : Fin 10, (Nat.digitChar d.val).toNat = 48 + d.val := by decide
  exact this ⟨d, h⟩
theorem numT_small {n : Nat} (h : n < 10) : numT n = [48 + n] := by
  unfold numT
  rw [Nat.toDigits_of_lt_base h]
  show [(Nat.digitChar n).toNat] = _
  rw [dig_val h]
theorem numT_big {n : Nat} (h : 10 ≤ n) : numT n = numT (n / 10) ++ [48 + n % 10] := by
  have t : Nat.toDigits 10 (n / 10) ++ Nat.toDigits 10 (n % 10) = Nat.toDigits 10 (10 * (n / 10) + n % 10) := Nat.toDigits_append_toDigits (by decide) (by omega) (Nat.mod_lt _ (by decide))
  rw [Nat.div_add_mod] at t
  unfold numT
  rw [← t, List.map_append]
  congr 1
  have := numT_small (n := n % 10) (by omega)
  unfold numT at this
  exact this
theorem numT_facts (n : Nat) : (∀ c ∈ numT n, c ∈ DIG) ∧ numT n ≠ [] ∧ digitsVal (numT n) = n ∧ (∀ k, 1 ≤ k → n < 10 ^ k → (numT n).length ≤ k) ∧ (1 ≤ n → (numT n).head? ≠ some 48) ∧ (10 ≤ n → 1 ≤ n) := by
  induction n using Nat.strongRecOn with
  | _ n ih =>
    by_cases h : n < 10
    · rw [numT_small h]
      refine ⟨fun c hc => ?_, by simp, by simp [digitsVal], fun k hk _ => by simpa using hk, fun h1 => by simp; omega, fun _ => by omega⟩
      rw [List.mem_singleton.mp hc]
      exact mem_digits (by omega)
    · rw [numT_big (by omega)]
      obtain ⟨a, b, c, d, e, _⟩ := ih (n / 10) (by omega)
      refine ⟨fun x hx => ?_, by simp, ?_, fun k hk hn => ?_, fun _ => ?_, fun _ => by omega⟩
      · rcases List.mem_append.mp hx with z | z
        · exact a x z
        · rw [List.mem_singleton.mp z]; exact mem_digits (by omega)
      · unfold digitsVal at c ⊢
        rw [List.foldl_append, c]
        simp only [List.foldl_cons, List.foldl_nil]
        omega
      · rw [List.length_append]
        obtain ⟨j, rfl⟩ : ∃ j, k = j + 1 := ⟨k - 1, by omega⟩
        have h2 : 1 ≤ j := by
          cases j with
          | zero => simp at hn; omega
          | succ j => omega
        have := d j h2 (by rw [Nat.pow_succ] at hn; omega)
        simp; omega
      · have := e (by omega)
        cases hq : numT (n / 10) with
        | nil => exact absurd hq b
        | cons x r => rw [hq] at this; simpa using this
theorem numT_dig (n : Nat) : ∀ c ∈ numT n, c ∈ DIG := (numT_facts n).1
theorem numT_ne (n : Nat) : numT n ≠ [] := (numT_facts n).2.1
theorem numT_len {n k : Nat} (hk : 1 ≤ k) (h : n < 10 ^ k) : (numT n).length ≤ k := (numT_facts n).2.2.2.1 k hk h
theorem numB_num {n : Nat} {lo hi : Int} (h7 : n < 10 ^ 7) (h1 : lo ≤ n) (h2 : (n : Int) ≤ hi) : numB (numT n) lo hi = some (n : Int) := by
  obtain ⟨_, b, c, d, e, _⟩ := numT_facts n
  unfold numB
  rw [if_neg, if_pos]
  · rw [c]
  · rw [c]; exact ⟨h1, h2⟩
  · rintro (z | z | ⟨z1, z2⟩)
    · exact b z
    · have := d 7 (by decide) h7; omega
    · by_cases h : 1 ≤ n
      · exact e h z1
      · have : n = 0 := by omega
        subst this
        rw [numT_small (by decide)] at z2
        simp at z2
/-! ### reading signs back -/
theorem digit_not_letter {c : Nat} (h : c ∈ DIG) : ¬ c ∈ LET ∧ ¬ c = 46 := by
  have := digits_mem h
  have z : ∀ c : Fin 58, c.val ∈ DIG → ¬ c.val ∈ LET ∧ ¬ c.val = 46 := by decide
  exact z ⟨c, by omega⟩ h
theorem sym_other {c : Nat} (h : c ∈ SYM) : ¬ c ∈ LET ∧ ¬ c ∈ DIG ∧ c ≠ 46 ∧ c ≠ 32 := by
  have : ∀ c ∈ SYM, ¬ c ∈ LET ∧ ¬ c ∈ DIG ∧ c ≠ 46 ∧ c ≠ 32 := by decide
  exact this c h
theorem let_other {c : Nat} (h : c ∈ LET) : ¬ c ∈ DIG ∧ c ≠ 46 ∧ c ≠ 32 ∧ ¬ c ∈ SYM := by
  have : ∀ c ∈ LET, ¬ c ∈ DIG ∧ c ≠ 46 ∧ c ≠ 32 ∧ ¬ c ∈ SYM := by decide
  exact this c h
theorem sp_other : ¬ (32 : Nat) ∈ LET ∧ ¬ (32 : Nat) ∈ DIG ∧ ¬ (32 : Nat) ∈ SYM := by decide
theorem lex_space (r : Tx) : lex (32 :: r) = lex r := by
  rw [lex_cons]
  unfold lex1
  rw [if_neg sp_other.1, if_neg sp_other.2.1, if_neg sp_other.2.2, if_pos rfl]
  show (lex r).map _ = _
  cases lex r <;> simp
theorem lex_spaces : ∀ (n : Nat) (r : Tx), lex (List.replicate n 32 ++ r) = lex r
  | 0, r => by simp
  | n + 1, r => by rw [List.replicate_succ, List.cons_append, lex_space, lex_spaces n r]
theorem lex_sym {c : Nat} {r : Tx} (h : c ∈ SYM) : lex (c :: r) = (lex r).map ([dY c] ++ ·) := by
  obtain ⟨h1, h2, _, _⟩ := sym_other h
  rw [lex_cons]
  unfold lex1
  rw [if_neg h1, if_neg h2, if_pos h]
  rfl
theorem take_app {a b : Tx} : (a ++ b).take a.length = a := by simp
theorem drop_app {a b : Tx} : (a ++ b).drop a.length = b := by simp
theorem lex_num {n : Nat} {r : Tx} (h : n ≤ 1000000) (hr : ∀ c, r.head? = some c → ¬ c ∈ DIG) : lex (numT n ++ r) = (lex r).map ([dN n] ++ ·) := by
  have hs : spn DIG (numT n ++ r) = (numT n).length := spn_app (numT_dig n) hr
  cases q : numT n with
  | nil => exact absurd q (numT_ne n)
  | cons c t =>
    rw [q] at hs
    have hc : c ∈ DIG := numT_dig n c (by rw [q]; simp)
    rw [List.cons_append] at hs ⊢
    rw [lex_cons]
    unfold lex1
    rw [if_neg (digit_not_letter hc).1, if_pos hc, hs]
    have e1 : (c :: (t ++ r)).take (c :: t).length = c :: t := take_app (a := c :: t)
    have e2 : (c :: (t ++ r)).drop (c :: t).length = r := drop_app (a := c :: t)
    rw [e1, ← q, numB_num (Nat.lt_of_le_of_lt h (by decide)) (by omega) (by omega)]
    simp only [Option.map_some]
    rw [q, e2]
theorem wordLen_plain {w r : Tx} (hw : ∀ c ∈ w, c ∈ LET) (h1 : w.length ≤ 8) (hr : ∀ c, r.head? = some c → ¬ c ∈ LET ∧ c ≠ 46) : wordLen (w ++ r) = some w.length := by
  have hs : spn LET (w ++ r) = w.length := spn_app hw fun c hc => (hr c hc).1
  unfold wordLen
  rw [hs, if_neg (by omega), if_neg]
  intro z
  rw [List.getElem?_append_right (Nat.le_refl _), Nat.sub_self, ← List.head?_eq_getElem?] at z
  exact (hr _ z).2 rfl
theorem wordLen_dot {w r : Tx} {n : Nat} (hw : ∀ c ∈ w, c ∈ LET) (h1 : w.length ≤ 8) (hn : 2 ≤ n ∧ n ≤ 99) (hr : ∀ c, r.head? = some c → ¬ c ∈ DIG) : wordLen (w ++ (46 :: numT n ++ r)) = some (w.length + 1 + (numT n).length) := by
  have hs : spn LET (w ++ (46 :: numT n ++ r)) = w.length := spn_app hw fun c hc => by
    have e : c = 46 := by simpa using hc.symm
    rw [e]; decide
  have e1 : (w ++ (46 :: numT n ++ r)).drop (w.length + 1) = numT n ++ r := by
    rw [List.drop_append, List.drop_eq_nil_of_le (by omega), show w.length + 1 - w.length = 1 by omega]; rfl
  have hd : spn DIG (numT n ++ r) = (numT n).length := spn_app (numT_dig n) hr
  unfold wordLen
  rw [hs, if_neg (by omega), if_pos, e1, hd, take_app, numB_num (by omega) (by omega) (by omega)]
  · rfl
  · rw [List.getElem?_append_right (Nat.le_refl _), Nat.sub_self]; rfl
/-- a word: letters, perhaps a dot and a number -/
def WordOk (w : Tx) : Prop := ∃ ls : Tx, ls ≠ [] ∧ ls.length ≤ 8 ∧ (∀ c ∈ ls, c ∈ LET) ∧ (w = ls ∨ ∃ n : Nat, 2 ≤ n ∧ n ≤ 99 ∧ w = ls ++ 46 :: numT n)
theorem WordOk.len {w : Tx} (h : WordOk w) : w.length ≤ 11 := by
  obtain ⟨ls, _, h1, _, rfl | ⟨n, h2, h3, rfl⟩⟩ := h
  · omega
  · have := numT_len (n := n) (k := 2) (by decide) (by omega)
    simp; omega
theorem lex_word {w r : Tx} (h : WordOk w) (h1 : 46 ∈ w → ∀ c, r.head? = some c → ¬ c ∈ DIG) (h2 : ¬ 46 ∈ w → ∀ c, r.head? = some c → ¬ c ∈ LET ∧ c ≠ 46) : lex (w ++ r) = (lex r).map ([dW w] ++ ·) := by
  obtain ⟨ls, hne, hl, hL, hw⟩ := h
  have no46 : ¬ 46 ∈ ls := fun z => (let_other (hL _ z)).2.1 rfl
  have hk : wordLen (w ++ r) = some w.length := by
    rcases hw with rfl | ⟨n, n1, n2, rfl⟩
    · exact wordLen_plain hL hl (h2 no46)
    · rw [List.append_assoc, List.cons_append, ← List.cons_append, wordLen_dot hL hl ⟨n1, n2⟩ (h1 (by simp))]
      simp; omega
  cases q : w with
  | nil =>
    rcases hw with rfl | ⟨n, n1, n2, rfl⟩
    · exact absurd q hne
    · simp at q
  | cons c t =>
    have hc : c ∈ LET := by
      cases hls : ls with
      | nil => exact absurd hls hne
      | cons d u =>
        have : c = d := by
          rcases hw with rfl | ⟨n, n1, n2, rfl⟩
          · rw [hls] at q; cases q; rfl
          · rw [hls] at q; cases q; rfl
        rw [this]; exact hL d (by rw [hls]; simp)
    rw [q] at hk
    rw [List.cons_append] at hk ⊢
    rw [lex_cons]
    unfold lex1
    rw [if_pos hc, hk]
    have e1 : (c :: (t ++ r)).take (c :: t).length = c :: t := take_app (a := c :: t)
    have e2 : (c :: (t ++ r)).drop (c :: t).length = r := drop_app (a := c :: t)
    simp only [Option.map_some]
    rw [e1, e2]
/-- a sign as it is drawn -/
inductive TokOk : QL.D → Prop where
  | sym (c : Nat) (h : c ∈ SYM) : TokOk (dY c)
  | num (n : Nat) (h : n ≤ 1000000) : TokOk (dN n)
  | word (w : Tx) (h : WordOk w) : TokOk (dW w)
def tokT : QL.D → Tx
  | .tup [_, .str s] => s
  | .tup [_, .int i] => tx (toString i)
  | _ => []
theorem tokT_sym (c : Nat) : tokT (dY c) = [c] := rfl
theorem tokT_num (n : Nat) : tokT (dN n) = numT n := tx_num n
theorem tokT_word (w : Tx) : tokT (dW w) = w := rfl
/-- the rest does not go on with the last sign -/
def Good (l : QL.D) (r : Tx) : Prop := (∀ n : Int, l = dN n → ∀ c, r.head? = some c → ¬ c ∈ DIG) ∧ ∀ w, l = dW w → (46 ∈ w → ∀ c, r.head? = some c → ¬ c ∈ DIG) ∧ (¬ 46 ∈ w → ∀ c, r.head? = some c → ¬ c ∈ LET ∧ c ≠ 46)
theorem tags : tx "word" ≠ tx "number" ∧ tx "word" ≠ tx "symbol" ∧ tx "number" ≠ tx "symbol" := by decide
theorem lex_tok {d : QL.D} {r : Tx} (h : TokOk d) (g : Good d r) : lex (tokT d ++ r) = (lex r).map ([d] ++ ·) := by
  cases h with
  | sym c h => rw [tokT_sym]; exact lex_sym h
  | num n h => rw [tokT_num]; exact lex_num h (g.1 _ rfl)
  | word w h => rw [tokT_word]; exact lex_word h (g.2 _ rfl).1 (g.2 _ rfl).2
theorem good_space (l : QL.D) (r : Tx) : Good l (32 :: r) := by
  have z : ∀ c, (32 :: r).head? = some c → c = 32 := fun c h => by simpa using h.symm
  refine ⟨fun n _ c hc => ?_, fun w _ => ⟨fun _ c hc => ?_, fun _ c hc => ?_⟩⟩ <;> rw [z c hc] <;> decide
theorem good_non (r : Tx) : Good .non r := ⟨fun _ e => (by cases e), fun _ e => (by cases e)⟩
theorem good_sym (c : Nat) (r : Tx) : Good (dY c) r := by
  refine ⟨fun n e => ?_, fun w e => ?_⟩
  · exact absurd (by injection e with e; injection e with e; injection e with e; exact e.symm) tags.2.2
  · exact absurd (by injection e with e; injection e with e; injection e with e; exact e.symm) tags.2.1
theorem good_end (l : QL.D) : Good l [] := ⟨fun _ _ c h => (by cases h), fun _ _ => ⟨fun _ c h => (by cases h), fun _ c h => (by cases h)⟩⟩
theorem good_num {n : Int} {r : Tx} (h : ∀ c, r.head? = some c → ¬ c ∈ DIG) : Good (dN n) r := by
  refine ⟨fun _ _ => h, fun w e => ?_⟩
  exact absurd (by injection e with e; injection e with e; injection e with e; exact e.symm) tags.1
theorem good_word {w r : Tx} (h1 : 46 ∈ w → ∀ c, r.head? = some c → ¬ c ∈ DIG) (h2 : ¬ 46 ∈ w → ∀ c, r.head? = some c → ¬ c ∈ LET ∧ c ≠ 46) : Good (dW w) r := by
  refine ⟨fun n e => ?_, fun v e => ?_⟩
  · exact absurd (by injection e with e; injection e with e; injection e) tags.1
  · have : w = v := by
      injection e with e
      injection e with _ e
      injection e with e _
      injection e
    subst this; exact ⟨h1, h2⟩
theorem TokOk.ok {d : QL.D} (h : TokOk d) : okN 1 d = true ∧ okL d = true := by
  cases h <;> exact ⟨rfl, rfl⟩
theorem TokOk.len {d : QL.D} (h : TokOk d) : (tokT d).length ≤ 11 := by
  cases h with
  | sym c h => simp [tokT_sym]
  | num n h => rw [tokT_num]; have := numT_len (n := n) (k := 7) (by decide) (Nat.lt_of_le_of_lt h (by decide)); omega
  | word w h => rw [tokT_word]; exact h.len
theorem WordOk.head {w r : Tx} (h : WordOk w) : ∀ c, (w ++ r).head? = some c → c ∈ LET := by
  obtain ⟨ls, hne, _, hL, hw⟩ := h
  cases hls : ls with
  | nil => exact absurd hls hne
  | cons d u =>
    intro c hc
    have : c = d := by
      rcases hw with rfl | ⟨n, _, _, rfl⟩ <;> (rw [hls] at hc; simpa using hc.symm)
    rw [this]; exact hL d (by rw [hls]; simp)
end QL

namespace QL
open PySem PySem.Spec PyProof.Rows
/-! ### the text of a value, whatever is under way: some text of at most n signs -/
def ReprSo (prog : Program) (w : World) (h₀ : Heap) (d n : Nat) (x : Value) : Prop :=
  ∀ (b : Nat), b + n ≤ sizeLine → ∀ (A : Around) (E : Value → Shared → Prop) (s : Shared) (Q : Str → Shared → Prop), A.units + d < cLine → (∀ a o, h₀.get? a = some o → s.heap.get? a = some o) →
    (∀ (t : Str) (tk : Tok), t.length ≤ n → Q t { s with toks := tk }) → wpAny (model prog w) A (pyReprUnder b x) Q E s
theorem ReprSo.of_is {prog : Program} {w : World} {h₀ : Heap} {d n : Nat} {x : Value} {t : Str} (h : ReprIs prog w x t) (hn : t.length ≤ n) : ReprSo prog w h₀ d n x := fun b hb A E s Q _ _ k =>
  h b (by omega) A E s Q fun tk => k t tk hn
theorem ReprSo.mono {prog : Program} {w : World} {h₀ : Heap} {d n e m : Nat} {x : Value} (h : ReprSo prog w h₀ d n x) (h1 : d ≤ e) (h2 : n ≤ m) : ReprSo prog w h₀ e m x := fun b hb A E s Q hu hk k =>
  h b (by omega) A E s Q (by omega) hk fun t tk ht => k t tk (by omega)
section
variable {prog : Program} {w : World} {A : Around} {E : Value → Shared → Prop} {h₀ : Heap} {d n : Nat}
theorem fold_some (hu : A.units + d < cLine) : ∀ (l : List Value) (acc : Array Str) (k : Nat) (s : Shared) (Q : (Array Str × Nat) → Shared → Prop), (∀ x ∈ l, ReprSo prog w h₀ d n x) → (∀ a o, h₀.get? a = some o → s.heap.get? a = some o) →
    k + l.length * (n + 2) ≤ sizeLine → (∀ (ts : List Str) (tk : Tok), ts.length = l.length → (∀ t ∈ ts, t.length ≤ n) → Q ⟨acc ++ ts.toArray, k + piled ts⟩ { s with toks := tk }) → wpAny (model prog w) A (forIn l (⟨acc, k⟩ : (Array Str × Nat)) tupBody) Q E s := by
  intro l
  induction l with
  | nil =>
    intro acc k s Q _ _ _ h
    have h0 := h [] s.toks rfl (by simp)
    simp only [List.forIn_nil]
    exact wpAny_pure (by simpa [piled] using h0)
  | cons x l ih =>
    intro acc k s Q hx hk hs h
    rw [List.forIn_cons]
    simp only [List.length_cons, Nat.succ_mul] at hs
    refine wpAny_bind (wpAny_bind (hx x (by simp) (k + 1) (by omega) _ _ _ _ hu hk fun t tk ht => wpAny_pure ?_))
    refine ih (acc.push t) (k + (t.length + 2)) _ Q (fun y hy => hx y (List.mem_cons_of_mem _ hy)) hk (by omega) fun ts tk' h1 h2 => ?_
    have h3 := h (t :: ts) tk' (by simp [h1]) (fun y hy => (List.mem_cons.mp hy).elim (fun e => e ▸ ht) (h2 y))
    have e : k + piled (t :: ts) = k + (t.length + 2) + piled ts := by rw [piled_cons]; omega
    rw [e] at h3
    simpa using h3
theorem piled_le : ∀ (ts : List Str), (∀ t ∈ ts, t.length ≤ n) → piled ts ≤ ts.length * (n + 2)
  | [], _ => by simp [piled]
  | t :: ts, h => by
    have h1 := h t (by simp)
    have h2 := piled_le ts fun y hy => h y (List.mem_cons_of_mem _ hy)
    rw [piled_cons]
    simp only [List.length_cons, Nat.succ_mul]
    omega
theorem rest_some {s : Shared} {a : Addr} {o : Obj} {items : Array Value} {k b : Nat} {Q : Fin → Shared → Prop} (hu : A.units + d < cLine) (ha : s.heap.get? a = some o) (hd : o.data = .seq items k) (hT : ∀ x ∈ items.toList, ReprSo prog w h₀ d n x) (hk : ∀ a o, h₀.get? a = some o → s.heap.get? a = some o)
    (hsz : b + items.size * (n + 2) + 8 ≤ sizeLine) (h : ∀ (m : Str) (u tk : Tok), m.length ≤ items.size * (n + 2) + 5 → Q (.done (.ret (.str m u))) { s with toks := tk }) :
    wpAny (model prog w) A (tupleReprRest b (.ref a)) Q E s := by
  have hl : items.toList.length = items.size := Array.length_toList
  unfold tupleReprRest Builtin.Tuple.tupleItemsOf
  refine wpAny_bind (wpAny_bind (wpAny_seqItems ha hd (wpAny_pure ?_)))
  rw [← Array.forIn_toList]
  refine wpAny_bind (fold_some hu _ _ _ _ _ hT hk (by rw [hl]; omega) fun ts tk h1 h2 => ?_)
  have hp := piled_le ts h2
  have ht := fmt_text ts
  rw [h1, hl] at hp
  rw [hl] at h1
  refine wpAny_bind (wpAny_mkStr (wpAny_pure ?_) ?_)
  · have h3 := h (tupleText ts) tk (tk + 1) (by omega)
    simpa [tupleText, h1] using h3
  · have : (tupleText ts).length ≤ sizeLine := by omega
    simpa [tupleText, h1] using this
theorem at_some {s : Shared} {a : Addr} {o : Obj} {items : Array Value} {k b : Nat} {Q : Fin → Shared → Prop} (hu : A.units + d < cLine) (ha : s.heap.get? a = some o) (hd : o.data = .seq items k) (hT : ∀ x ∈ items.toList, ReprSo prog w h₀ d n x) (hk : ∀ a o, h₀.get? a = some o → s.heap.get? a = some o)
    (hsz : b + items.size * (n + 2) + 8 ≤ sizeLine) (h : ∀ (m : Str) (u tk : Tok), m.length ≤ items.size * (n + 2) + 5 → Q (.done (.ret (.str m u))) { s with toks := tk }) :
    wpAny (model prog w) A (Builtin.tupleReprAt b ⟨[.ref a], []⟩) Q E s := by
  rw [tuple_repr_tree]
  refine wpAny_bind (fmt_underWay fun q => ?_)
  cases q with
  | true =>
    refine PySem.W.KFB.if_so rfl ?_
    refine wpAny_bind (wpAny_rule ?_)
    refine wpAny_bind (wpAny_mkStr (wpAny_pure ?_) (by decide +kernel))
    exact h "(...)" _ _ (Nat.le_trans fmt_way (Nat.le_add_left _ _))
  | false =>
    refine PySem.W.KFB.if_not rfl ?_
    exact rest_some hu ha hd hT hk hsz h
/-- a tuple in a tuple -/
theorem ReprSo.tup {a : Addr} {o : Obj} {items : Array Value} {k : Nat} (ha : h₀.get? a = some o) (hc : o.cls = .type "tuple") (hd : o.data = .seq items k) (hT : ∀ x ∈ items.toList, ReprSo prog w h₀ d n x) :
    ReprSo prog w h₀ (d + 1) (items.size * (n + 2) + 8) (.ref a) := by
  intro b hb A E s Q hu hk h
  have ha' := hk a o ha
  refine wpAny_pyReprUnder_ref (by omega) (wpAny_pyReprObjUnder_twin (twin := "tuple.__repr__.under") ⟨o, ha', hc⟩ F.slot_tuple_repr rfl (by omega) ?_)
  refine call_twin_own (F.quiet_tuple_repr_under _) F.entry_tuple_repr_under F.check_tuple_repr_under ⟨o, ha', hc⟩ F.slot_tuple_repr (F.args_tuple_repr_1 _) (wpOwn_of_wpAny ?_)
  refine at_some (d := d) (n := n) (by rw [units_under_tuple_repr_under]; omega) ha' hd hT hk (by omega) fun m u tk hm => ?_
  exact ⟨⟨_, _, rfl⟩, _, _, rfl, h m tk (by omega)⟩
end
section
variable {prog : Program} {w : World} {A : Around} {E : Value → Shared → Prop} {d n : Nat}
/-- str(t) -/
theorem str_tup_some {s : Shared} {a : Addr} {o : Obj} {items : Array Value} {k : Nat} {Q : Value → Shared → Prop} (hu : A.units + d + 6 < cLine) (ha : s.heap.get? a = some o) (hc : o.cls = .type "tuple") (hd : o.data = .seq items k) (hT : ∀ (prog : Program) (w : World), ∀ x ∈ items.toList, ReprSo prog w s.heap d n x)
    (hsz : items.size * (n + 2) + 8 ≤ sizeLine) (h : ∀ (m : Str) (u tk : Tok), Q (.str m u) { s with toks := tk }) : wpAny (model prog w) A (call (.type "str") [.ref a]) Q E s :=
  callType_new F.called_str (by decide) (F.typeCall_str_1 _) (F.newCall_str_1 _) (fun obj => F.args_object_init_2 obj _) F.entry_str_new
    (meets_str_new (S := fun A' R s' => A'.units + d + 5 < cLine ∧ (∀ b o, s.heap.get? b = some o → s'.heap.get? b = some o) ∧ ∀ m u tk, R (.ok (.ret (.str m u))) { s' with toks := tk })
      fun prog' w' A' R s' q => by
        have ha' := q.2.1 a o ha
        refine wpAny_strOf_slot (T := "tuple") (idr := "tuple.__repr__") rfl (by show A'.units + 1 + 1 < cLine; have := q.1; omega) ⟨o, ha', hc⟩ F.slot_tuple_str F.slot_tuple_repr ?_
        refine wpAny_call (codeAny_call_builtin_own (Code.quiet_builtin _ (by decide +kernel)) F.entry_tuple_repr (F.slot_tuple_repr.check _ _ _ _ _ _ _ _ ⟨o, ha', hc⟩ (F.args_tuple_repr_1 _) (wpOwn_of_wpAny ?_)))
        refine at_some (d := d) (n := n) (b := 0) (by rw [units_under_tuple_repr]; show A'.units + 1 + 1 + 1 + d < cLine; have := q.1; omega) ha' hd (hT prog' w') q.2.1 (by omega) fun m u tk _ => ?_
        exact ⟨_, _, rfl, q.2.2 m u tk⟩)
    ⟨by show A.units + 1 + d + 5 < cLine; omega, fun _ _ e => e, fun m u tk => ⟨typeIs_str _ _ _, h m u tk⟩⟩
end
end QL
namespace QL
open PySem PySem.Spec PyProof.Rows L2
/-- data whose text has at most n signs, at most d deep -/
def shD : Nat → Nat → D → Prop
  | _, n, .str s => 10 * s.length + 4 ≤ n
  | _, n, .int i => ∃ k : Nat, i = k ∧ k ≤ 1000000 ∧ 7 ≤ n
  | d + 1, n, .tup ds => ∃ m, ds.length * (m + 2) + 8 ≤ n ∧ ∀ x ∈ ds, shD d m x
  | _, _, _ => False
theorem vals_mem {K : PySem.W.Frag} {H : Hp} : ∀ {ds : List D} {xs : List V} {us : List Value}, RDs K H ds xs → Vals xs us → ∀ u ∈ us, ∃ d ∈ ds, ∃ v, RD K H d v ∧ RelV v u
  | [], xs, us, r, t, u, hu => by
    cases r; cases t; cases hu
  | d :: ds, xs, us, r, t, u, hu => by
    obtain ⟨x, ys, rfl, a, b⟩ := r
    cases t with
    | cons t1 t2 =>
      rcases List.mem_cons.mp hu with rfl | h
      · exact ⟨d, by simp, x, a, t1⟩
      · obtain ⟨d', hd, v, h1, h2⟩ := vals_mem b t2 u h
        exact ⟨d', List.mem_cons_of_mem _ hd, v, h1, h2⟩
theorem vals_len {xs : List V} {us : List Value} (h : Vals xs us) : xs.length = us.length := h.length
theorem shows {X : Cx} {pins : List (Addr × Obj)} {σ : L2.St} {H : Hp} {s : Shared} (I : Inv X pins σ H s) : ∀ (d n : Nat) (x : D) (v : V) (u : Value), RD X.K H x v → RelV v u → shD d n x → ∀ (prog : Program) (w : World), ReprSo prog w s.heap d n u
  | d, n, .str y, v, u, r, t, h, prog, w => by
    obtain ⟨rfl, ok⟩ := r
    obtain ⟨tk, rfl⟩ := t
    have h : 10 * y.length + 4 ≤ n := by cases d <;> exact h
    have hl := StrLaws.reprText_len ⟨y.toArray⟩ (fun c hc => by
      have := ok c (by simpa using hc)
      exact Nat.lt_of_lt_of_le this (by decide))
    have e : Str.length ⟨y.toArray⟩ = y.length := str_len
    intro b hb
    exact ReprSo.of_is (ReprIs.str ⟨y.toArray⟩ tk (by omega)) (by omega) b hb
  | d, n, .int i, v, u, r, t, h, prog, w => by
    cases r
    obtain ⟨tk, rfl⟩ := t
    obtain ⟨k, rfl, hk, hn⟩ : ∃ k : Nat, i = k ∧ k ≤ 1000000 ∧ 7 ≤ n := by cases d <;> exact h
    have e : (Str.ofString (toString ((k : Nat) : Int))).length ≤ 7 := by
      rw [str_of, str_len, tx_num]
      exact numT_len (by decide) (by omega)
    have hz : ((k : Nat) : Int).natAbs.log2 < 1920 := log_small (Nat.lt_of_le_of_lt (show ((k : Nat) : Int).natAbs ≤ 1000000 by rw [Int.natAbs_natCast]; exact hk) (Nat.lt_of_lt_of_le (show 1000000 < 2 ^ 20 by decide) (Nat.pow_le_pow_right (by decide) (by decide))))
    exact ReprSo.of_is (ReprIs.int tk hz) (Nat.le_trans e hn)
  | d + 1, n, .tup ds, v, u, r, t, h, prog, w => by
    obtain ⟨a, xs, rfl, hs, rs⟩ := r
    obtain rfl : u = Value.ref a := t
    obtain ⟨m, hm, hx⟩ := h
    obtain ⟨its, rv, ⟨o, ho, hcl, k, hd⟩, _⟩ := I.tuple hs
    have hl : its.toArray.size = ds.length := by rw [List.size_toArray, ← vals_len rv, ← rs.length]
    have q := ReprSo.tup (prog := prog) (w := w) (d := d) (n := m) ho hcl hd fun z hz => by
      obtain ⟨x, hx', v', r', t'⟩ := vals_mem rs rv z (by simpa using hz)
      exact shows I d m x v' z r' t' (hx x hx') prog w
    exact q.mono (Nat.le_refl _) (by rw [hl]; exact hm)
  | 0, n, .tup ds, _, _, _, _, h, _, _ => h.elim
  | d, n, .non, _, _, _, _, h, _, _ => by cases d <;> exact h.elim
  | d, n, .bl _, _, _, _, _, h, _, _ => by cases d <;> exact h.elim
  | d, n, .fl _, _, _, _, _, h, _, _ => by cases d <;> exact h.elim
  | d, n, .ob _, _, _, _, _, h, _, _ => by cases d <;> exact h.elim
  | d, n, .ty _, _, _, _, _, h, _, _ => by cases d <;> exact h.elim
  | d, n, .any, _, _, _, _, h, _, _ => by cases d <;> exact h.elim
def rStrT (K : PySem.W.Frag) : List V → Hp → VK → Prop := fun xs H Q => ∃ (p : Addr) (ds : List D) (d m : Nat), xs = [.ref p] ∧ RD K H (.tup ds) (.ref p) ∧ (∀ x ∈ ds, shD d m x) ∧ d ≤ 40 ∧ ds.length * (m + 2) + 8 ≤ 1000000 ∧ ∀ t : Str, Q (.str t) H
theorem call_strT {X : Cx} {k : Nat} (hr : Room k X.A) : CallR X (.type "str") (rStrT X.K) := by
  intro pins s σ H xs us Q I r h
  obtain ⟨p, ds, d, m, rfl, ⟨a, ys, e, hs, rs⟩, hx, hd, hm, q⟩ := h
  cases e
  rw [Vals.ref1 r]
  obtain ⟨its, rv, ⟨o, ho, hcl, n, hdt⟩, _⟩ := I.tuple hs
  have hl : its.toArray.size = ds.length := by rw [List.size_toArray, ← vals_len rv, ← rs.length]
  refine str_tup_some (d := d) (n := m) (by have := hr.un; omega) ho hcl hdt (fun prog w z hz => ?_) (by rw [hl, sizeLine_eq]; omega) fun t u tk => ⟨.str t, H, I.tok _, ⟨u, rfl⟩, q t⟩
  obtain ⟨x, hx', v', r', t'⟩ := vals_mem rs rv z (by simpa using hz)
  exact shows I d m x v' z r' t' (hx x hx') prog w
def rStrAT (K : PySem.W.Frag) : List V → Hp → VK → Prop := fun xs H Q => rStrAll xs H Q ∨ rStrT K xs H Q
theorem call_strAT {X : Cx} {k : Nat} (hr : Room k X.A) : CallR X (.type "str") (rStrAT X.K) := callr_or call_strAll (call_strT hr)
/-- str(i), str(text), str of a tuple: some text -/
def strTD : D1L := fun ds M Q => match ds with
  | [.tup ts] => (∃ d m, (∀ x ∈ ts, shD d m x) ∧ d ≤ 40 ∧ ts.length * (m + 2) + 8 ≤ 1000000) ∧ Q .any M
  | ds => strOf ds M Q
theorem ol_strT {K : PySem.W.Frag} : OL K (rStrAT K) strTD := by
  intro xs ds H M Q Q' r m w k
  unfold strTD at w
  split at w
  · obtain ⟨v, rfl, r1⟩ := rds1 r
    obtain ⟨⟨d, n, h1, h2, h3⟩, w⟩ := w
    obtain ⟨a, ys, e, hs, rs⟩ := id r1
    subst e
    exact .inr ⟨a, _, d, n, rfl, r1, h1, h2, h3, fun t => k _ H D.any M (TK.refl H) ⟨t, rfl⟩ m w⟩
  · exact .inl (ol_str xs ds H M Q Q' r m w k)
theorem e_strT_i {i : Int} {M : Mp} {Q : KD} : strTD [.int i] M Q = (i.natAbs < 2 ^ 1000 ∧ Q (.str (tx (toString i))) M) := rfl
theorem e_strT_s {x : Tx} {M : Mp} {Q : KD} : strTD [.str x] M Q = Q (.str x) M := rfl
theorem e_strT_t {ts : List D} {M : Mp} {Q : KD} : strTD [.tup ts] M Q = ((∃ d m, (∀ x ∈ ts, shD d m x) ∧ d ≤ 40 ∧ ts.length * (m + 2) + 8 ≤ 1000000) ∧ Q .any M) := rfl
end QL

namespace QL
open PySem PySem.Spec PyProof.Rows L2
section
variable {X : Cx} {W : WX} {e : Expr} {wa : DE}
/-! ### for c in text -/
def wItS (we : DE) : DI := fun δ M R E => we δ M (fun d M1 => ∃ s, d = .str s ∧ R ⟨s.map fun c => D.str [c], fun _ => True⟩ M1) E
theorem qi_str {tg : Expr} (he : QE X W e wa) : QI X W tg e (wItS wa) :=
  pi_weak (pi_str he) fun σ H R ⟨H0, δ, M, R', XX, p, w, k⟩ => ⟨H0, δ, M, _, XX, p, w, fun v H1 d M1 k1 r1 m1 w1 => by
    obtain ⟨s, rfl, w1⟩ := w1
    obtain ⟨rfl, ok⟩ := r1
    refine ⟨_, rfl, k _ H1 _ M1 k1 m1 ⟨fun i H' M' k2 _ _ hi => ?_, fun H' M' k2 _ _ => ?_, fun i x H' H'' M' k2 m2 _ hi y => ?_⟩ w1⟩
    · have hi : i < s.length := by simpa using hi
      show i < s.toArray.size
      simpa using hi
    · show s.toArray.size ≤ (s.map fun c => D.str [c]).length
      simp
    · have hi : i < s.length := by simpa using hi
      obtain ⟨rfl, c, hc, rfl⟩ := y
      have hc : s[i]? = some c := by simpa using hc
      refine ⟨.str [c], by simp [hc], TK.refl _, ⟨rfl, fun z hz => ?_⟩, m2⟩
      rw [List.mem_singleton.mp hz]
      exact ok c (List.mem_of_getElem? hc)⟩
end
end QL

namespace QL
open PySem PySem.Spec PyProof.Rows L2
/-! ### dicts with text keys -/
def isK (z : Tx) : D → Bool
  | .str y => z == y
  | _ => false
def getD (kvs : List (D × D)) (z : Tx) : Option D := (kvs.find? fun e => isK z e.1).map (·.2)
def putK' (kvs : List (D × D)) (z : Tx) (v : D) : List (D × D) :=
  if (kvs.any fun e => isK z e.1) = true then kvs.map (fun e => if isK z e.1 = true then (e.1, v) else e) else kvs ++ [(.str z, v)]
theorem isK_key {z : Tx} {k : D} {n : Key} (h : keyD k = some n) : isK z k = decide (n = .inr ⟨z.toArray⟩) := by
  cases k with
  | int i =>
    cases h
    exact (decide_eq_false (by intro e; cases e)).symm
  | str y =>
    cases h
    show (z == y) = _
    rw [Bool.eq_iff_iff, beq_iff_eq, decide_eq_true_iff]
    constructor
    · intro e; rw [e]
    · intro e
      injection e with e
      injection e with e
      exact (Array.toList_inj.mpr e).symm
  | _ => cases h
section
variable {K : PySem.W.Frag} {H H' : Hp}
theorem kvs_get {z : Tx} : ∀ {kvs : List (D × D)} {gs : List (Key × V)}, Kvs K H keyD kvs gs → (getD kvs z = none ∧ valV gs (.inr ⟨z.toArray⟩) = none) ∨ ∃ d v, getD kvs z = some d ∧ valV gs (.inr ⟨z.toArray⟩) = some v ∧ RD K H d v
  | [], _, h => by cases h; exact .inl ⟨rfl, rfl⟩
  | (k, d) :: r, _, h => by
    obtain ⟨n, v, gs, rfl, hk, rd, hr⟩ := h
    have q := isK_key (z := z) hk
    by_cases e : n = .inr ⟨z.toArray⟩
    · rw [decide_eq_true e] at q
      refine .inr ⟨d, v, ?_, valV_pos e, rd⟩
      unfold getD
      rw [List.find?_cons_of_pos (p := fun e : D × D => isK z e.1) (a := (k, d)) q]; rfl
    · rw [decide_eq_false e] at q
      rw [valV_neg e]
      have e1 : getD ((k, d) :: r) z = getD r z := by
        unfold getD
        rw [List.find?_cons_of_neg (p := fun e : D × D => isK z e.1) (a := (k, d)) (by rw [q]; decide)]
      rw [e1]
      exact kvs_get hr
theorem kvs_any {z : Tx} : ∀ {kvs : List (D × D)} {gs : List (Key × V)}, Kvs K H keyD kvs gs → (kvs.any fun e => isK z e.1) = (gs.any fun kv => decide (kv.1 = .inr ⟨z.toArray⟩))
  | [], _, h => by cases h; rfl
  | (k, d) :: r, _, h => by
    obtain ⟨n, v, gs, rfl, hk, rd, hr⟩ := h
    rw [List.any_cons, List.any_cons, isK_key hk, kvs_any hr]
theorem kvs_map {z : Tx} {d0 : D} {v0 : V} (r0 : RD K H d0 v0) : ∀ {kvs : List (D × D)} {gs : List (Key × V)}, Kvs K H keyD kvs gs →
    Kvs K H keyD (kvs.map fun e => if isK z e.1 = true then (e.1, d0) else e) (gs.map fun kv => if kv.1 = .inr ⟨z.toArray⟩ then (kv.1, v0) else kv)
  | [], _, h => by cases h; rfl
  | (k, d) :: r, _, h => by
    obtain ⟨n, v, gs, rfl, hk, rd, hr⟩ := h
    have q := isK_key (z := z) hk
    rw [List.map_cons, List.map_cons]
    by_cases e : n = .inr ⟨z.toArray⟩
    · rw [decide_eq_true e] at q
      rw [if_pos q, if_pos e]
      exact ⟨n, v0, _, rfl, hk, r0, kvs_map r0 hr⟩
    · rw [decide_eq_false e] at q
      rw [if_neg (by rw [q]; decide), if_neg e]
      exact ⟨n, v, _, rfl, hk, rd, kvs_map r0 hr⟩
theorem kvs_app {d0 : D} {v0 : V} {k0 : D} {n0 : Key} (hk0 : keyD k0 = some n0) (r0 : RD K H d0 v0) : ∀ {kvs : List (D × D)} {gs : List (Key × V)}, Kvs K H keyD kvs gs → Kvs K H keyD (kvs ++ [(k0, d0)]) (gs ++ [(n0, v0)])
  | [], _, h => by cases h; exact ⟨n0, v0, [], rfl, hk0, r0, rfl⟩
  | (k, d) :: r, _, h => by
    obtain ⟨n, v, gs, rfl, hk, rd, hr⟩ := h
    exact ⟨n, v, _, rfl, hk, rd, kvs_app hk0 r0 hr⟩
theorem kvs_put {z : Tx} {d0 : D} {v0 : V} {kvs : List (D × D)} {gs : List (Key × V)} (h : Kvs K H keyD kvs gs) (r0 : RD K H d0 v0) : Kvs K H keyD (putK' kvs z d0) (L2.putK gs (.inr ⟨z.toArray⟩) v0) := by
  unfold putK' L2.putK
  rw [kvs_any h]
  by_cases e : (gs.any fun kv => decide (kv.1 = .inr ⟨z.toArray⟩)) = true
  · rw [if_pos e, if_pos e]; exact kvs_map r0 h
  · rw [if_neg e, if_neg e]; exact kvs_app rfl r0 h
theorem kvs_len {κ : Type} {kf : D → Option κ} : ∀ {kvs : List (D × D)} {gs : List (κ × V)}, Kvs K H kf kvs gs → kvs.length = gs.length
  | [], _, h => by cases h; rfl
  | _ :: _, _, h => by
    obtain ⟨n, v, gs, rfl, _, _, hr⟩ := h
    simp [kvs_len hr]
end
def onK (M : Mp) (a : Addr) (k : List (D × D) → Prop) : Prop := ∃ xs, M a = some (.dic xs) ∧ k xs
theorem onK_of {M : Mp} {a : Addr} {xs : List (D × D)} {k : List (D × D) → Prop} (h : M a = some (.dic xs)) : onK M a k = k xs := by
  apply propext
  refine ⟨fun ⟨ys, e, q⟩ => ?_, fun q => ⟨xs, h, q⟩⟩
  rw [h] at e; cases e; exact q
theorem onK_same {M : Mp} {a : Addr} {xs : List (D × D)} {k : List (D × D) → Prop} : onK (upm M a (.dic xs)) a k = k xs := onK_of upm_same
theorem notPerm_dK {gs : List (Key × V)} : ¬ Perm (.dK gs) := fun z => z
section
variable {X : Cx} {W : WX} {a b c e o i : Expr} {es : List Expr} {wa wb wo we wk wv : DE} {pos apos pos' : Pos}
/-- {} -/
theorem qe_neg {n : Int} {j : Nat} {p1 : Pos} : QE X W (.UnaryOp .USub (.Constant (.int n) j p1) pos) (wC (.int (-n))) :=
  pe_weak (pe_un un_neg pe_int) fun σ H Q ⟨H0, δ, M, Q', XX, p, w, k⟩ => ⟨n, rfl, k _ H _ M (TK.refl H) RD.intI p.rm w⟩
def wDnew : DE := fun _ M Q _ => ∀ p, M p = none → Q (.ob p) (upm M p (.dic []))
theorem qe_dnew : QE X W (.Dict [] [] pos) wDnew := pe_weak pe_dnewK fun σ H Q ⟨H0, δ, M, Q', XX, p, w, k⟩ a ha =>
  k _ _ _ _ (TK.new ha) RD.obI (p.rm.new (m := .dic []) ha ⟨[], upd_same, rfl⟩) (w a (p.rm.none ha))
/-- d[k] -/
def wDget (wo wk : DE) : DE := fun δ M Q E => wo δ M (fun x M1 => wk δ M1 (fun y M2 => ∃ a z, x = .ob a ∧ y = .str z ∧ onK M2 a fun kvs => ∃ v, getD kvs z = some v ∧ Q v M2) E) E
theorem qe_dget (hu : X.A.units + 65 < cLine) (ho : QE X W o wo) (hk : QE X W i wk) (hs : NoSl i := by intro _ _; rfl) : QE X W (.Subscript o i pos) (wDget wo wk) :=
  pe_weak (pe_dget (by omega) ho hk hs) fun σ H Q ⟨H0, δ, M, Q', XX, p, w, k⟩ => ⟨H0, δ, M, _, XX, p, w, fun x H1 d M1 k1 r1 m1 w1 => ⟨H0, δ, M1, _, XX, p.step k1 m1, w1, fun y H2 e M2 k2 r2 m2 w2 => by
    obtain ⟨a, z, rfl, rfl, kvs, em, v, hv, w2⟩ := w2
    cases r1
    obtain ⟨rfl, _⟩ := r2
    obtain ⟨gs, e1, kk⟩ := m2 _ _ em
    rcases kvs_get (z := z) kk with ⟨q, _⟩ | ⟨d', v', q, qv, rd⟩
    · rw [hv] at q; cases q
    · rw [hv] at q; cases q
      exact ⟨a, v', rfl, qv ▸ DGet.k (k := .inr ⟨z.toArray⟩) e1, k _ _ _ _ (k1.trans k2) rd m2 w2⟩⟩⟩
/-- d.get(k, x) -/
def wDget2 (wo wk wv : DE) : DE := fun δ M Q E => wo δ M (fun x M1 => ∃ a, x = .ob a ∧ (onK M1 a fun _ => True) ∧ wk δ M1 (fun y M2 => wv δ M2 (fun d M3 => ∃ z, y = .str z ∧ onK M3 a fun kvs => Q ((getD kvs z).getD d) M3) E) E) E
theorem qe_dget2 (hu : X.A.units + 65 < cLine) (ho : QE X W o wo) (hk : QE X W b wk) (hv : QE X W c wv) (m : M2 X o "get" apos b c pos := by exact ⟨rfl, rfl, rfl, rfl⟩) : QE X W (.Call (.Attribute o "get" apos) [b, c] [] pos) (wDget2 wo wk wv) :=
  pe_weak (pe_dget2 (by omega) ho hk hv m) fun σ H Q ⟨H0, δ, M, Q', XX, p, w, k⟩ => ⟨H0, δ, M, _, XX, p, w, fun x H1 d M1 k1 r1 m1 w1 => by
    obtain ⟨a, rfl, ⟨kv0, em0, _⟩, w1⟩ := w1
    cases r1
    obtain ⟨gs0, e0, _⟩ := m1 _ _ em0
    refine ⟨a, rfl, .inl ⟨gs0, .inl e0⟩, ⟨H0, δ, M1, _, XX, p.step k1 m1, w1, fun y H2 e M2 k2 r2 m2 w2 => ⟨H0, δ, M2, _, XX, (p.step k1 m1).step k2 m2, w2, fun v H3 dd M3 k3 r3 m3 w3 => ?_⟩⟩⟩
    obtain ⟨z, rfl, kvs, em, w3⟩ := w3
    obtain ⟨rfl, _⟩ := r2
    obtain ⟨gs, e1, kk⟩ := m3 _ _ em
    refine ⟨_, DGet.k (k := .inr ⟨z.toArray⟩) e1, ?_⟩
    rcases kvs_get (z := z) kk with ⟨q, q2⟩ | ⟨d', v', q, qv, rd⟩
    · rw [q] at w3
      have q2' : valV gs (.inr ⟨z.toArray⟩) = none := q2
      rw [q2']
      exact k _ _ _ _ (k1.trans (k2.trans k3)) r3 m3 w3
    · rw [q] at w3
      have q2' : valV gs (.inr ⟨z.toArray⟩) = some v' := qv
      rw [q2']
      exact k _ _ _ _ (k1.trans (k2.trans k3)) rd m3 w3⟩
/-- d.get(k) -/
def wDget1 (wo wk : DE) : DE := fun δ M Q E => wo δ M (fun x M1 => ∃ a, x = .ob a ∧ (onK M1 a fun _ => True) ∧ wk δ M1 (fun y M2 => ∃ z, y = .str z ∧ onK M2 a fun kvs => Q ((getD kvs z).getD .non) M2) E) E
theorem qe_dget1 (hu : X.A.units + 65 < cLine) (ho : QE X W o wo) (hk : QE X W b wk) (m : M1 X o "get" apos b pos := by exact ⟨rfl, rfl, rfl, rfl⟩) : QE X W (.Call (.Attribute o "get" apos) [b] [] pos) (wDget1 wo wk) :=
  pe_weak (pe_dget1 (by omega) ho hk m) fun σ H Q ⟨H0, δ, M, Q', XX, p, w, k⟩ => ⟨H0, δ, M, _, XX, p, w, fun x H1 d M1 k1 r1 m1 w1 => by
    obtain ⟨a, rfl, ⟨kv0, em0, _⟩, w1⟩ := w1
    cases r1
    obtain ⟨gs0, e0, _⟩ := m1 _ _ em0
    refine ⟨a, rfl, .inl ⟨gs0, .inl e0⟩, ⟨H0, δ, M1, _, XX, p.step k1 m1, w1, fun y H2 e M2 k2 r2 m2 w2 => ?_⟩⟩
    obtain ⟨z, rfl, kvs, em, w2⟩ := w2
    obtain ⟨rfl, _⟩ := r2
    obtain ⟨gs, e1, kk⟩ := m2 _ _ em
    refine ⟨_, DGet.k (k := .inr ⟨z.toArray⟩) e1, ?_⟩
    rcases kvs_get (z := z) kk with ⟨q, q2⟩ | ⟨d', v', q, qv, rd⟩
    · rw [q] at w2
      have q2' : valV gs (.inr ⟨z.toArray⟩) = none := q2
      rw [q2']
      exact k _ _ _ _ (k1.trans k2) RD.nonI m2 w2
    · rw [q] at w2
      have q2' : valV gs (.inr ⟨z.toArray⟩) = some v' := qv
      rw [q2']
      exact k _ _ _ _ (k1.trans k2) rd m2 w2⟩
/-- d[k] = v -/
def wDput (wo wk wv : DE) : DS := fun D δ M => wv δ M (fun v M1 => wo δ M1 (fun x M2 => wk δ M2 (fun y M3 => ∃ a z, x = .ob a ∧ y = .str z ∧ onK M3 a fun kvs => kvs.length < sizeLine ∧ D.nx δ (upm M3 a (.dic (putK' kvs z v)))) (fun x M => D.xx x δ M)) (fun x M => D.xx x δ M)) (fun x M => D.xx x δ M)
theorem qs_dput (hu : X.A.units + 65 < cLine) (ho : QE X W o wo) (hk : QE X W i wk) (hv : QE X W e wv) (hs : swapsWith e (some (.Subscript o i pos')) pos.line X.env = pure false := by rfl) : QS X W (.Assign [.Subscript o i pos'] e pos) (wDput wo wk wv) :=
  ps_weak (ps_dput (by omega) ho hk hv hs) fun D σ H ⟨H0, δ, M, D', p, w, le⟩ => ⟨H0, δ, M, _, D'.xx, p, w, fun v H1 d M1 k1 r1 m1 w1 => ⟨H0, δ, M1, _, D'.xx, p.step k1 m1, w1, fun vo H2 dO M2 k2 r2 m2 w2 => ⟨H0, δ, M2, _, D'.xx, (p.step k1 m1).step k2 m2, w2, fun vi H3 di M3 k3 r3 m3 w3 => by
    obtain ⟨a, z, rfl, rfl, kvs, em, hl, q⟩ := w3
    cases r2
    obtain ⟨rfl, oz⟩ := r3
    obtain ⟨gs, e1, kk⟩ := m3 _ _ em
    have kp := TK.put (o := .dK (L2.putK gs (.inr ⟨z.toArray⟩) v)) e1 notPerm_dK
    refine ⟨a, _, rfl, DPut.k (k := .inr ⟨z.toArray⟩) e1 (by rw [← kvs_len kk]; exact hl), ?_⟩
    exact le.nx _ _ _ _ (k1.trans (k2.trans (k3.trans kp))) (p.rs.tk (k1.trans (k2.trans (k3.trans kp)))) (m3.put (m := .dic (putK' kvs z _)) e1 notPerm_dK ⟨_, upd_same, Kvs.tk kp (kvs_put kk (RD.tk (k2.trans k3) r1))⟩) q⟩⟩⟩
/-- k in d -/
def wInDic (neg : Bool) (wk wo : DE) : DE := fun δ M Q E => wk δ M (fun y M1 => wo δ M1 (fun x M2 => ∃ a z, x = .ob a ∧ y = .str z ∧ onK M2 a fun kvs => Q (.bl (xor neg (getD kvs z).isSome)) M2) E) E
theorem inDic_of {K : PySem.W.Frag} {W : WX} {neg : Bool} {wk wo : DE} {td : TE} (e : td = fun σ H Q => cE K W wk σ H fun y H1 => cE K W wo σ H1 fun x H2 => ∃ a o, x = .ref a ∧ DGet H2 a y o ∧ Q (.bl (xor neg o.isSome)) H2)
    {σ : L2.St} {H : Hp} {Q : VK} (h : cE K W (wInDic neg wk wo) σ H Q) : td σ H Q := by
  subst e
  obtain ⟨H0, δ, M, Q', XX, p, w, k⟩ := h
  refine ⟨H0, δ, M, _, XX, p, w, fun y H1 d M1 k1 r1 m1 w1 => ⟨H0, δ, M1, _, XX, p.step k1 m1, w1, fun x H2 e M2 k2 r2 m2 w2 => ?_⟩⟩
  obtain ⟨a, z, rfl, rfl, kvs, em, w2⟩ := w2
  cases r2
  obtain ⟨rfl, _⟩ := r1
  obtain ⟨gs, e1, kk⟩ := m2 _ _ em
  refine ⟨a, _, rfl, DGet.k (k := .inr ⟨z.toArray⟩) e1, ?_⟩
  rcases kvs_get (z := z) kk with ⟨q, q2⟩ | ⟨d', v', q, qv, rd⟩
  · rw [q] at w2
    rw [q2]
    exact k _ _ _ _ (k1.trans k2) RD.blI m2 w2
  · rw [q] at w2
    rw [qv]
    exact k _ _ _ _ (k1.trans k2) RD.blI m2 w2
theorem inDic_e {td ty : TE} : tDIn ty td = fun σ H Q => ty σ H fun y H1 => td σ H1 fun x H2 => ∃ a o, x = .ref a ∧ DGet H2 a y o ∧ Q (.bl (xor false o.isSome)) H2 := by
  unfold tDIn; simp only [Bool.false_xor]
theorem notInDic_e {td ty : TE} : tDNotIn ty td = fun σ H Q => ty σ H fun y H1 => td σ H1 fun x H2 => ∃ a o, x = .ref a ∧ DGet H2 a y o ∧ Q (.bl (xor true o.isSome)) H2 := by
  unfold tDNotIn; simp only [Bool.true_xor]
theorem qe_inDic (hu : X.A.units + 65 < cLine) (hk : QE X W a wk) (ho : QE X W b wo) (hm : behindInMarks .In b = false := by with_unfolding_all rfl) : QE X W (.Compare a [.In] [b] pos) (wInDic false wk wo) :=
  pe_weak (pe_cmp (pc_din (by omega) hk ho) hm) fun _ _ _ h => inDic_of inDic_e h
theorem qe_notInDic (hu : X.A.units + 65 < cLine) (hk : QE X W a wk) (ho : QE X W b wo) (hm : behindInMarks .NotIn b = false := by with_unfolding_all rfl) : QE X W (.Compare a [.NotIn] [b] pos) (wInDic true wk wo) :=
  pe_weak (pe_cmp (pc_dnotin (by omega) hk ho) hm) fun _ _ _ h => inDic_of notInDic_e h
theorem tst_of {K : PySem.W.Frag} {W : WX} {w : DE} {σ : L2.St} {H : Hp} {Q : Bool → Hp → Prop} (h : cT K W (wTst w) σ H Q) : cE K W w σ H fun v H1 => ∃ b, v = .bl b ∧ Q b H1 := by
  obtain ⟨H0, δ, M, Q', XX, p, w, k⟩ := h
  refine ⟨H0, δ, M, _, XX, p, w, fun v H' d M' k1 r1 m1 w1 => ?_⟩
  obtain ⟨t, rfl, q⟩ := w1
  exact ⟨t, r1, k t H' M' k1 m1 q⟩
theorem qt_inDic (hu : X.A.units + 65 < cLine) (hk : QE X W a wk) (ho : QE X W b wo) (hm : behindInMarks .In b = false := by with_unfolding_all rfl) : QT X W (.Compare a [.In] [b] pos) (wTst (wInDic false wk wo)) :=
  pt_weak (pt_cmp (pc_din (by omega) hk ho) hm) fun σ H Q h => inDic_of inDic_e (tst_of h)
theorem qt_notInDic (hu : X.A.units + 65 < cLine) (hk : QE X W a wk) (ho : QE X W b wo) (hm : behindInMarks .NotIn b = false := by with_unfolding_all rfl) : QT X W (.Compare a [.NotIn] [b] pos) (wTst (wInDic true wk wo)) :=
  pt_weak (pt_cmp (pc_dnotin (by omega) hk ho) hm) fun σ H Q h => inDic_of notInDic_e (tst_of h)
end
/-! ### repr of such a dict, where no repr is under way -/
def psD (e : D × D) : Str := match e.1, e.2 with
  | .str z, .int i => reprText ⟨z.toArray⟩ ++ ": " ++ (toString i : String)
  | _, _ => Str.empty
def reprD (kvs : List (D × D)) : Tx := (dictText (kvs.map psD)).cps.toList
def GoodKey (z : Tx) : Prop := okc (reprText ⟨z.toArray⟩).cps.toList ∧ (reprText ⟨z.toArray⟩).length ≤ 1000
def ShE (e : D × D) : Prop := ∃ z i, e = (.str z, .int i) ∧ GoodKey z ∧ i.natAbs ≤ 1000000
theorem okS_app {a b : Str} (h : okc a.cps.toList) (k : okc b.cps.toList) : okc (a ++ b).cps.toList := by
  have e : (a ++ b).cps.toList = a.cps.toList ++ b.cps.toList := by
    show (Str.append a b).cps.toList = _
    simp [Str.append]
  rw [e]; exact okc_append h k
theorem okS_of (s : String) : okc (Str.ofString s).cps.toList := by
  rw [str_of]; exact okc_tx s
theorem psD_ok {e : D × D} (h : ShE e) : okc (psD e).cps.toList ∧ (psD e).length ≤ 1010 := by
  obtain ⟨z, i, rfl, ⟨h1, h2⟩, h3⟩ := h
  refine ⟨okS_app (okS_app h1 (okS_of ": ")) (okS_of _), ?_⟩
  show (reprText ⟨z.toArray⟩ ++ ": " ++ (Str.ofString (toString i))).length ≤ 1010
  have e := int_text_length_le10 (a := i) (k := 7) (by decide) (by omega)
  have e2 : (Str.ofString (toString i)).length ≤ 8 := by
    have e3 : (Str.ofString (toString i)).length = (toString i).length := by
      show (Str.ofString (toString i)).cps.size = _
      rw [str_of]
      unfold tx
      rw [List.size_toArray, List.length_map]
      first
        | exact String.length_toList
        | rfl
        | simp
    rw [e3]; exact e
  rw [strLen_append, strLen_append]
  have e3 : (Str.ofString ": ").length = 2 := rfl
  omega
theorem joinS_ok {sep : Str} (hs : okc sep.cps.toList) : ∀ {ps : List Str}, (∀ p ∈ ps, okc p.cps.toList) → okc (Str.join sep ps).cps.toList
  | [], _ => by
    have e : (Str.join sep []).cps.toList = [] := rfl
    rw [e]; exact okc_nil
  | [x], h => h x (by simp)
  | x :: y :: r, h => okS_app (okS_app (h x (by simp)) hs) (joinS_ok hs fun p hp => h p (List.mem_cons_of_mem _ hp))
theorem reprD_ok {kvs : List (D × D)} (h : ∀ e ∈ kvs, ShE e) : okc (reprD kvs) := by
  unfold reprD dictText
  refine okS_app (okS_app (okS_of "{") (joinS_ok (okS_of ", ") fun p hp => ?_)) (okS_of "}")
  obtain ⟨e, he, rfl⟩ := List.mem_map.mp hp
  exact (psD_ok (h e he)).1
theorem reprD_len {kvs : List (D × D)} (hl : kvs.length ≤ 1000) (h : ∀ e ∈ kvs, ShE e) : (dictText (kvs.map psD)).length ≤ sizeLine := by
  have h1 := dictText_len_le (kvs.map psD)
  have h2 : ∀ l : List (D × D), (∀ e ∈ l, ShE e) → ((l.map psD).map (·.length)).sum ≤ l.length * 1010 := by
    intro l
    induction l with
    | nil => intro _; simp
    | cons e l ih =>
      intro h
      have a := (psD_ok (h e (by simp))).2
      have b := ih fun x hx => h x (List.mem_cons_of_mem _ hx)
      simp only [List.map_cons, List.sum_cons, List.length_cons]
      omega
  have h3 := h2 kvs h
  rw [sizeLine_eq]
  simp only [List.length_map] at h1
  omega
section
variable {X : Cx} {W : WX} {e : Expr} {we : DE} {pos : Pos}
theorem ents_of {P : Program} {w : World} {K : PySem.W.Frag} {H : Hp} {as : List Addr} {h₀ : Heap} {d : Nat} : ∀ {kvs : List (D × D)} {gs : List (Key × V)} {vs : List (Key × Value)} {es : List DictEntry},
    Kvs K H keyD kvs gs → KV gs vs → Pairs (mixKind P w) es vs → (∀ e ∈ kvs, ShE e) → ReprEntriesK P w as h₀ d es (kvs.map psD)
  | [], gs, vs, es, hk, hv, hp, _ => by
    cases hk
    cases hv
    cases hp
    exact .nil
  | (kd, dd) :: kvs, gs, vs, es, hk, hv, hp, hs => by
    obtain ⟨n, v, gs', rfl, hn, rd, hr⟩ := hk
    cases hv with
    | cons r1 r2 =>
      cases hp with
      | @cons de _ _ _ q1 q2 q3 =>
        obtain ⟨z, i, e0, gk, hi⟩ := hs _ (List.mem_cons_self ..)
        cases e0
        cases hn
        cases rd
        obtain ⟨r1a, r1b⟩ := r1
        have t := ents_of (as := as) (h₀ := h₀) (d := d) hr r2 q3 fun e he => hs e (List.mem_cons_of_mem _ he)
        refine ReprEntriesK.cons (k := reprText ⟨z.toArray⟩) (v := Str.ofString (toString i)) (ReprK.of_is ?_ _ _ _) (ReprK.of_is ?_ _ _ _) t
        · obtain ⟨tk, ek⟩ : ∃ tk, de.key = Value.str ⟨z.toArray⟩ tk := by
            rw [← r1a] at q1
            have q1 : keyIs (.inr ⟨z.toArray⟩) _ = true := q1
            rcases keyIs_shape q1 with ⟨_, _, h, _⟩ | ⟨x, tk, h, h2⟩
            · cases h
            · cases h
              exact ⟨tk, h2⟩
          rw [ek]
          exact ReprIs.str _ tk (by have := gk.2; rw [sizeLine_eq]; omega)
        · rw [q2]
          obtain ⟨tk, ev⟩ := r1b
          rw [ev]
          refine ReprIs.int tk (log_small ?_)
          exact Nat.lt_of_le_of_lt hi (by decide +kernel)
def rRepr (K : PySem.W.Frag) : List V → Hp → VK → Prop := fun xs H Q => ∃ a kvs gs, xs = [V.ref a] ∧ H a = some (.dK gs) ∧ Kvs K H keyD kvs gs ∧ kvs.length ≤ 1000 ∧ (∀ e ∈ kvs, ShE e) ∧ Q (.str (dictText (kvs.map psD))) H
theorem call_reprD (hg : X.A.guards = some []) (hu : X.A.units + 65 < cLine) : CallR X (.builtin "repr") (rRepr X.K) := by
  intro pins s σ H xs us Q I r h
  obtain ⟨a, kvs, gs, rfl, ha, hk, hl, hs, q⟩ := h
  rw [Vals.ref1 r]
  obtain ⟨_, low, vs, kv, o, es, ep, ho, hex, hd, _, hp, _⟩ := dk_rd I.hok (.inl ha)
  have hE := ents_of (as := []) (h₀ := s.heap) (d := 0) hk kv hp hs
  refine call_repr_slot (T := "dict") (idr := "dict.__repr__") (by omega) ⟨o, ho, hex.1⟩ F.slot_dict_repr ?_
  refine call_dict_reprK (as := []) (d := 0) ho hex.1 hd low (by simp) hE (g := []) hg (fun b _ => ?_) (by show X.A.units + 1 + (0 + 1) < cLine; omega) (fun _ _ e => e) (fun h' u tk hk => ?_) (reprD_len hl hs)
  · intro _ _ _ _ hm; cases hm
  · exact ⟨_, _, rfl, .str (dictText (kvs.map psD)), H, I.kept hk, ⟨_, rfl⟩, q⟩
def reprOf : D1L := fun ds M Q => match ds with
  | [.ob a] => onK M a fun kvs => kvs.length ≤ 1000 ∧ (∀ e ∈ kvs, ShE e) ∧ Q (.str (reprD kvs)) M
  | _ => False
theorem ol_repr {K : PySem.W.Frag} : OL K (rRepr K) reprOf := by
  intro xs ds H M Q Q' r m w k
  unfold reprOf at w
  split at w
  · obtain ⟨kvs, em, h1, h2, w⟩ := w
    obtain ⟨x, ys, rfl, rx, rest⟩ := r
    cases rest
    cases rx
    obtain ⟨gs, e1, kk⟩ := m _ _ em
    exact ⟨_, kvs, gs, rfl, e1, kk, h1, h2, k _ H (.str (reprD kvs)) M (TK.refl H) ⟨rfl, reprD_ok h2⟩ m w⟩
  · exact w.elim
theorem e_repr {a : Addr} {M : Mp} {Q : KD} : reprOf [.ob a] M Q = onK M a fun kvs => kvs.length ≤ 1000 ∧ (∀ e ∈ kvs, ShE e) ∧ Q (.str (reprD kvs)) M := rfl
end
/-! ### promises where no repr is under way -/
structure FnG (P : Program) (w : World) (K : PySem.W.Frag) (mg : Str → Option Value) (base : Heap) (k : Nat) (f : Addr) (fd : FuncData) (ps : List Str) (sp : SpD) : Prop where
  len : ∀ vs H Q E, lsp K sp vs H Q E → vs.length = ps.length
  run : ∀ (A : Around) (outer : List PySem.Env) (s : Shared) (H : Hp) (args : Args) (us : List Value) (vs : List V) (Q : VK) (E : XK), Room k A → A.guards = some [] → Env0 P w K mg base A outer s H → BindsTo s fd args (ps.zip us) → Vals vs us → lsp K sp vs H Q E →
    codeAny (model P w) A (.call (.ref f) args) (CR (L2.CX P w) outer P w H s Q E) s
theorem FnG.of {P : Program} {w : World} {K : PySem.W.Frag} {mg : Str → Option Value} {base : Heap} {k : Nat} {f : Addr} {fd : FuncData} {ps : List Str} {sp : SpD} (F : FnD P w K mg base k f fd ps sp) : FnG P w K mg base k f fd ps sp :=
  ⟨F.len, fun A outer s H args us vs Q E hr _ => F.run A outer s H args us vs Q E hr⟩
section
variable {P : Program} {w : World} {K : PySem.W.Frag} {mg : Str → Option Value} {base : Heap}
theorem fnG_of {x qual : Str} {st : Stmt} {f : Addr} {fd : FuncData} {N ps : List Str} {k : Nat} {sp : SpD} {wb : DS} (F : Fun K x qual st f fd) (S : FnScope N ps (defScope st)) (len : ∀ ds M Q E, sp ds M Q E → ds.length = ps.length)
    (body : ∀ (cdv : Value) (A : Around) (outer : List PySem.Env) (s : Shared) (H : Hp) (E : XK), Room k (A.deeper (envOfC qual (defScope st) s.heap.objs.size f cdv)) → A.guards = some [] →
      QSs (cxOf (L2.CX P w) P w K mg base N qual (defScope st) f cdv A outer s H E) (fun c od _ H => E c od H) (defBody st) wb)
    (go : ∀ (ds : List D) (M : Mp) (Q : KD) (E : XKD), sp ds M Q E → wb { nx := fun _ M' => endR Q .non M', rt := endR Q, xx := endX E } (dStart N ds) M) : FnG P w K mg base (k + 1) f fd ps sp := by
  obtain ⟨oc, od, kV, doc, pm, an, cdv, ct, osl, rfl, lk, hcd⟩ := F.ex
  refine ⟨fun vs H Q E h => ?_, fun A outer s H args us vs Q E hr hg e0 hb r h => ?_⟩
  · obtain ⟨ds, M, Q', E', a, _, c, _⟩ := h
    rw [← a.length]; exact len _ _ _ _ c
  obtain ⟨ds, M, Q', E', a, b, c, kr, kx⟩ := h
  have hl : vs.length = ps.length := by rw [← a.length]; exact len _ _ _ _ c
  have KX : K.In s.heap := e0.mod.kin.keeps fun z o e => (e0.bs z o e).1
  have start : cS K (fun c od _ H => E c od H) wb { nx := fun _ H' => Q .non H', rt := Q } (L2.start N vs) H := by
    refine ⟨H, dStart N ds, M, { nx := fun _ M' => endR Q' .non M', rt := endR Q', xx := endX E' }, ⟨TK.refl H, fun x c od σ H' δ M' tk xr rs rm hx => ?_, rs_start a, b⟩, go ds M Q' E' c, ⟨?_, ?_, ?_, ?_⟩⟩
    · obtain ⟨M0, s0, q⟩ := hx
      exact kx x c od H' M0 tk xr (rm.sub s0) q
    · rintro σ H' δ M' tk rs rm ⟨M0, s0, q⟩
      exact kr _ _ _ M0 tk RD.nonI (rm.sub s0) q
    · rintro v H' d M' tk rd rm ⟨M0, s0, q⟩
      exact kr _ _ _ M0 tk rd (rm.sub s0) q
    · rintro σ H' δ M' tk rs rm q; exact q
    · rintro σ H' δ M' tk rs rm q; exact q
  refine codeAny_call_function hr.depth (KX _ _ lk) rfl S.co S.gen rfl (PySem.W.codeRec_of KX hcd) (hb _ _ _ _ ?_)
  refine wpAny_newFunctionEnv_cells S.kind (fun y hy => (S.par y.1 (List.of_mem_zip hy).1).elim .inl fun q => .inr ⟨q, PySem.W.cellsFrom_some _ _ _ (.inl q)⟩) fun env he s1 x => ?_
  subst he
  refine ⟨(e0.mod.nolimit.keeps fun z o e => (e0.bs z o e).1 : s.heap.NoLimit).keeps x.toInCall.keep, codeAny_func ?_⟩
  have I : Inv (cxOf (L2.CX P w) P w K mg base N qual (defScope st) f cdv A outer s H E) [] (L2.start N vs) H s1 := inv_start S hr.hd e0 hl r x
  refine wpAny_mono ((body cdv A outer s H E (hr.deeper _) hg).run [] s1 (L2.start N vs) H _ I start) (fun fl s' hs => ?_) fun e s' hs => hs
  cases fl with
  | ret u =>
    obtain ⟨v, σ', H', J, rv, q⟩ := hs
    exact ⟨v, H', J.os, J.bare, J.base, J.hok, rv, q⟩
  | next =>
    obtain ⟨σ', H', J, q⟩ := hs
    exact ⟨V.non, H', J.os, J.bare, J.base, J.hok, rfl, q⟩
  | brk => obtain ⟨_, _, _, q⟩ := hs; exact False.elim q
  | cont => obtain ⟨_, _, _, q⟩ := hs; exact False.elim q
end
/-- the law's call: what its promise is asked for -/
theorem lawG {P : Program} {w : World} {K : PySem.W.Frag} {mg mb : Str → Option Value} {k : Nat} {fa a : Addr} {fd : FuncData} {x : Str} {sp : SpD} {s₁ : Shared} {vs : List Value} {ns : List Int}
    (KX : K.In s₁.heap) (hns : s₁.heap.Ns mainGlobals mg) (hb : s₁.heap.Ns builtinsNs mb) (hbb : ∀ x : Str, x ≠ "__name__" → mb x = bootBuiltins x) (hlim : s₁.heap.NoLimit) (hg : s₁.gens = #[])
    (ha : s₁.heap.get? a = some { cls := .type "list", data := .seq vs.toArray }) (hi : IntsAre vs ns) (hl : ns.length ≤ sizeLine) (hr : Room k callerA)
    (F : ∀ base : Heap, K.In base → base.Ns mainGlobals mg → FnG P w K mg base k fa fd [x] sp) (hbind : ∀ (s : Shared) (u : Value), BindsTo s fd ⟨[u], []⟩ [(x, u)])
    (hsp : ∀ H : Hp, Only H → SqL K H a (ns.map V.int) → lsp K sp [.ref a] H (fun v _ => v = .bl true) fun _ _ _ => False) :
    codeAny (model P w) callerA (.call (.ref fa) ⟨[.ref a], []⟩) (fun r s' => r = .ok (.ret (.bool true)) ∧ OldK s₁.heap s'.heap ∧ s'.os = s₁.os ∧ AllBare s'.gens) s₁ := by
  -- the heap in which at most the script is tracked
  have core : ∀ H : Hp, (∀ b, H b = none ∨ (b = a ∧ K.lookup a = none ∧ ∃ o xs, H b = some (.frz o (.lst xs)))) → SqL K H a (ns.map V.int) → HOk P w H s₁.heap →
      codeAny (model P w) callerA (.call (.ref fa) ⟨[.ref a], []⟩) (fun r s' => r = .ok (.ret (.bool true)) ∧ OldK s₁.heap s'.heap ∧ s'.os = s₁.os ∧ AllBare s'.gens) s₁ := by
    intro H hH hS hok
    have hO : Only H := fun b => (hH b).imp id fun ⟨_, _, z⟩ => z
    have hid : ∀ {b : Addr} {o : Obj}, s₁.heap.get? b = some o → H b = none → (hidT s₁.heap H).get? b = some o := fun e n => hidT_get e n
    have free : ∀ {b : Addr} {o : Obj} {es : Array DictEntry} {ep : Nat}, s₁.heap.get? b = some o → o.data = .dict es ep → H b = none := by
      intro b o es ep e d
      rcases hH b with z | ⟨rfl, _, _⟩
      · exact z
      · rw [ha] at e
        cases e
        exact nomatch d
    have nsH : ∀ {b : Addr} {m : Str → Option Value}, s₁.heap.Ns b m → (hidT s₁.heap H).Ns b m := by
      rintro b m ⟨o, es, ep, e, d, r⟩
      exact ⟨o, es, ep, hid e (free e d), d, r⟩
    have kin : K.In (hidT s₁.heap H) := fun b o e => hid (KX b o e) (by
      rcases hH b with z | ⟨rfl, n, _⟩
      · exact z
      · rw [n] at e; cases e)
    obtain ⟨mc, l1, l2⟩ := hlim
    have md : Mod K mg (hidT s₁.heap H) := ⟨kin, nsH hns, ⟨mb, nsH hb, hbb⟩, mc, nsH l1, l2⟩
    have e0 : Env0 P w K mg (hidT s₁.heap H) callerA [] s₁ H := ⟨rfl, md, fun b o e => of_hidT e, Nat.le_of_eq (hidT_size _ _), trivial, (fun b hb => nomatch (show b ∈ ([] : List Addr) from hb)), hok, .of_eq hg⟩
    refine codeAny_mono ((F _ kin (nsH hns)).run callerA [] s₁ H ⟨[.ref a], []⟩ [.ref a] [.ref a] _ _ hr rfl e0 (hbind s₁ (.ref a)) (.cons rfl .nil) (hsp H hO hS)) fun r s' h => ?_
    match r, h with
    | .error e, h =>
      obtain ⟨_, _, _, _, _, _, _, _, _, _, _, _, z⟩ := h
      exact z.elim
    | .ok .next, h => exact False.elim h
    | .ok .brk, h => exact False.elim h
    | .ok .cont, h => exact False.elim h
    | .ok (.ret u), h =>
      obtain ⟨v, H', os, bare, un, hok', r', q⟩ := h
      have q : v = .bl true := q
      subst q
      obtain rfl : u = Value.bool true := r'
      refine ⟨rfl, OldK.of_keep fun b o e => ?_, os, bare⟩
      rcases hH b with z | ⟨_, _, ob, xs, z⟩
      · exact un.keep b o e z (fun m => nomatch (show b ∈ ([] : List Addr) from m)) (by simp)
      · obtain ⟨e1, _⟩ := hok b _ z
        obtain ⟨e2, _⟩ := hok' b _ (un.frzs b ob _ z)
        rw [e] at e1; cases e1
        exact e2
  have rv := vals_ints hi
  have lenV := hi.length
  cases hk : K.lookup a with
  | some o =>
    have e := KX a o hk
    rw [ha] at e
    cases e
    exact core (fun _ => none) (fun _ => .inl rfl) (.inr ⟨_, vs.toArray, _, hk, rfl, rfl, rfl, by rw [List.size_toArray, lenV]; exact hl, by simpa using rv⟩) fun b u z => nomatch z
  | none =>
    refine core (fun b => if b = a then some (.frz { cls := .type "list", data := .seq vs.toArray } (.lst (ns.map V.int))) else none) (fun b => ?_) (.inl (.inr ⟨{ cls := .type "list", data := .seq vs.toArray }, if_pos rfl⟩)) fun b u z => ?_
    · by_cases h : b = a
      · exact .inr ⟨h, hk, _, _, if_pos h⟩
      · exact .inl (if_neg h)
    · by_cases h : b = a
      · have z' := (if_pos h).symm.trans z
        cases z'
        subst h
        exact ⟨ha, by rw [List.length_map]; exact hl, vs, _, rv, ha⟩
      · exact nomatch (if_neg h).symm.trans z
theorem walkG {l : PySem.W.OpenLaw} {k : Nat} {q : Program} {loose : List Str} {XP : (Str → Option Value) → Heap → Prop} {YP : World → Heap → Prop} {d : DefRec} {K : Params → PySem.W.Frag} {sp : SpD}
    (hn : l.most = some 63) (hdf : d.params.defaults = []) (hr : Room k callerA) (hY : ∀ (w : World) (h : Heap), YP w h → (K w.params).In h)
    (F : ∀ (w : World) (mg : Str → Option Value) (fa : Addr) (h : Heap), (K w.params).In h → h.Ns mainGlobals mg → mg d.name = some (.ref fa) →
      ∃ fd : FuncData, (∀ (s : Shared) (u : Value), BindsTo s fd ⟨[u], []⟩ [("_law_script", u)]) ∧
        ∀ base : Heap, (K w.params).In base → base.Ns mainGlobals mg → FnG l.prog w (K w.params) mg base k fa fd ["_law_script"] sp)
    (good : ∀ ns : List Int, ns.length ≤ 63 → sp [.fl (ns.map D.int)] (fun _ => none) (fun d _ => d = .bl true) (fun _ _ => False)) :
    PySem.W.WalkO q loose XP YP l.row.toRowW d [] (fun f vs => PySem.call f vs) := by
  refine Att.attach_call hn hdf fun w s₀ s₁ mg mb fa o pm cd doc a vs ns G Y ho hd hcd hmg hobj hints hlen hg => ?_
  obtain ⟨fd, hb, hF⟩ := F w mg fa _ (hY w _ Y) G.T.g hmg
  refine lawG (hY w _ Y) G.T.g G.T.b G.T.builtins G.T.nolimit hg hobj hints (Nat.le_trans hlen (by decide)) hr hF hb fun H h2 h3 => ?_
  refine ⟨_, fun _ => none, fun d _ => d = .bl true, fun _ _ => False, script_reads h2 h3, (fun _ _ z => nomatch z), good ns hlen, fun v H' d M' _ hd _ q => ?_, fun _ _ _ _ _ _ _ _ z => z.elim⟩
  cases q
  exact hd
end QL

namespace QL
open PySem PySem.Spec PyProof.Rows L2 PySem.NumText
/-! ### signs never cross a space -/
theorem spn_sp {cs : Tx} (h : ¬ 32 ∈ cs) (a b : Tx) : spn cs (a ++ 32 :: b) = spn cs a := by
  induction a with
  | nil => exact spn_out h
  | cons c a ih =>
    by_cases hc : c ∈ cs
    · rw [List.cons_append, spn_in hc, spn_in hc, ih]
    · rw [List.cons_append, spn_out hc, spn_out hc]
theorem take_sp {a b : Tx} {n : Nat} (h : n ≤ a.length) : (a ++ 32 :: b).take n = a.take n := List.take_append_of_le_length h
theorem drop_sp {a b : Tx} {n : Nat} (h : n ≤ a.length) : (a ++ 32 :: b).drop n = a.drop n ++ 32 :: b := List.drop_append_of_le_length h
theorem wordLen_sp (a b : Tx) : wordLen (a ++ 32 :: b) = wordLen a := by
  have hl : ¬ (32 : Nat) ∈ LET := sp_other.1
  have hd : ¬ (32 : Nat) ∈ DIG := sp_other.2.1
  have le := spn_le LET a
  unfold wordLen
  rw [spn_sp hl]
  generalize spn LET a = s at *
  rcases Nat.lt_or_eq_of_le le with h | h
  · rw [List.getElem?_append_left h, drop_sp (show s + 1 ≤ a.length by omega), spn_sp hd, take_sp (spn_le _ _)]
  · have e1 : (a ++ 32 :: b)[s]? = some 32 := by rw [h]; simp
    have e2 : a[s]? = none := by rw [h]; simp
    rw [e1, e2]
    rfl
theorem lex1_sp (c : Nat) (r b : Tx) : lex1 c (r ++ 32 :: b) = lex1 c r := by
  have hd : ¬ (32 : Nat) ∈ DIG := sp_other.2.1
  unfold lex1
  by_cases h1 : c ∈ LET
  · rw [if_pos h1, if_pos h1, ← List.cons_append, wordLen_sp]
    cases e : wordLen (c :: r) with
    | none => rfl
    | some k =>
      have := (wordLen_pos h1 e).2
      simp only [Option.map_some]
      rw [take_sp this]
  · rw [if_neg h1, if_neg h1]
    by_cases h2 : c ∈ DIG
    · rw [if_pos h2, if_pos h2, ← List.cons_append, spn_sp hd, take_sp (spn_le _ _)]
    · rw [if_neg h2, if_neg h2]
theorem lex_sp : ∀ (n : Nat) (a b : Tx), a.length ≤ n → lex (a ++ 32 :: b) = (lex a).bind fun t => (lex b).map (t ++ ·)
  | _, [], b, _ => by
    rw [List.nil_append, lex_space, lex_nil]
    cases lex b <;> simp
  | n + 1, c :: r, b, h => by
    rw [List.cons_append, lex_cons, lex1_sp, lex_cons]
    cases e : lex1 c r with
    | none => rfl
    | some p =>
      obtain ⟨t, k⟩ := p
      have hp := lex1_pos e
      simp only
      rw [← List.cons_append, drop_sp hp.2.1, lex_sp n _ _ (by rw [List.length_drop]; simp only [List.length_cons] at h ⊢; omega)]
      cases lex ((c :: r).drop k) with
      | none => rfl
      | some u => cases lex b <;> simp
theorem lex_split (a b : Tx) : lex (a ++ 32 :: b) = (lex a).bind fun t => (lex b).map (t ++ ·) := lex_sp _ a b (Nat.le_refl _)
/-- a text that is read -/
def Reads (l : Tx) : Prop := ∃ t, lex l = some t
theorem Reads.sp {a b : Tx} (ha : Reads a) (hb : Reads b) : Reads (a ++ 32 :: b) := by
  obtain ⟨t, ha⟩ := ha
  obtain ⟨u, hb⟩ := hb
  exact ⟨_, by rw [lex_split, ha, hb]; rfl⟩
theorem bad_left {a b : Tx} (h : lex a = none) : lex (a ++ 32 :: b) = none := by rw [lex_split, h]; rfl
theorem bad_right {a b : Tx} (h : lex b = none) : lex (a ++ 32 :: b) = none := by
  rw [lex_split, h]; cases lex a <;> rfl
theorem reads_join : ∀ {ws : List Tx}, (∀ x ∈ ws, Reads x) → Reads (joinT [32] ws)
  | [], _ => ⟨[], rfl⟩
  | [x], h => h x (by simp)
  | x :: y :: r, h => by
    have := (h x (by simp)).sp (reads_join (ws := y :: r) fun z hz => h z (List.mem_cons_of_mem _ hz))
    simpa [joinT, List.append_assoc] using this
theorem joinT_len {m : Nat} : ∀ {ws : List Tx}, (∀ x ∈ ws, x.length ≤ m) → (joinT [32] ws).length ≤ ws.length * (m + 1)
  | [], _ => by simp [joinT]
  | [x], h => by have := h x (by simp); simp [joinT]; omega
  | x :: y :: r, h => by
    have h1 := h x (by simp)
    have h2 := joinT_len (ws := y :: r) fun z hz => h z (List.mem_cons_of_mem _ hz)
    simp only [joinT, List.length_append, List.length_cons, List.length_nil, Nat.succ_mul] at h2 ⊢
    omega
theorem strsD_map : ∀ (ws : List Tx), strsD (ws.map D.str) = some ws
  | [] => rfl
  | w :: r => by simp [strsD, strsD_map r]
end QL

namespace QL
open PySem PySem.Spec PyProof.Rows L2 PySem.NumText
/-! ### signs -/
inductive Tk where
  | w (w : Tx) | n (n : Nat) | y (c : Nat)
  deriving DecidableEq
def Tk.D : Tk → QL.D
  | .w x => dW x
  | .n x => dN x
  | .y x => dY x
def TkOk : Tk → Prop
  | .w x => x.length ≤ 1000000
  | .n x => x ≤ 1000000
  | .y _ => True
theorem dW_len {w : Tx} {l : Tx} (h : w.length ≤ l.length) (k : l.length ≤ 1000000) : TkOk (.w w) := Nat.le_trans h k
theorem numB_nat {ds : Tx} {n : Int} (h : numB ds 0 1000000 = some n) : ∃ m : Nat, n = m ∧ m ≤ 1000000 := by
  unfold numB at h
  split at h
  · cases h
  · split at h
    · rename_i z
      cases h
      exact ⟨_, rfl, by omega⟩
    · cases h
theorem lex1_tk {c : Nat} {r : Tx} {t : List QL.D} {k : Nat} (hl : (c :: r).length ≤ 1000000) (h : lex1 c r = some (t, k)) : ∃ ts : List Tk, t = ts.map Tk.D ∧ ∀ x ∈ ts, TkOk x := by
  unfold lex1 at h
  split at h
  · cases e : wordLen (c :: r) with
    | none => rw [e] at h; cases h
    | some j =>
      rw [e] at h; cases h
      exact ⟨[.w ((c :: r).take k)], rfl, fun x hx => by rw [List.mem_singleton.mp hx]; exact Nat.le_trans (by simp [List.length_take]; omega) hl⟩
  · split at h
    · cases e : numB ((c :: r).take (spn DIG (c :: r))) 0 1000000 with
      | none => rw [e] at h; cases h
      | some j =>
        rw [e] at h; cases h
        obtain ⟨m, rfl, hm⟩ := numB_nat e
        exact ⟨[.n m], rfl, fun x hx => by rw [List.mem_singleton.mp hx]; exact hm⟩
    · split at h
      · cases h
        exact ⟨[.y c], rfl, fun x hx => by rw [List.mem_singleton.mp hx]; trivial⟩
      · split at h
        · cases h; exact ⟨[], rfl, by simp⟩
        · cases h
theorem lex_tk : ∀ (n : Nat) (l : Tx) (ts : List QL.D), l.length ≤ n → l.length ≤ 1000000 → lex l = some ts → ∃ tk : List Tk, ts = tk.map Tk.D ∧ (∀ x ∈ tk, TkOk x) ∧ tk.length ≤ l.length
  | _, [], ts, _, _, h => by
    rw [lex_nil] at h; cases h
    exact ⟨[], rfl, by simp, Nat.le_refl _⟩
  | n + 1, c :: r, ts, hn, hl, h => by
    rw [lex_cons] at h
    cases e : lex1 c r with
    | none => rw [e] at h; cases h
    | some p =>
      obtain ⟨t, k⟩ := p
      rw [e] at h
      have hp := lex1_pos e
      have hd : ((c :: r).drop k).length ≤ n := by rw [List.length_drop]; simp only [List.length_cons] at hn ⊢; omega
      have h : (lex ((c :: r).drop k)).map (t ++ ·) = some ts := h
      cases e2 : lex ((c :: r).drop k) with
      | none => rw [e2] at h; cases h
      | some u =>
        rw [e2] at h; cases h
        obtain ⟨a, rfl, ha⟩ := lex1_tk hl e
        obtain ⟨b, rfl, hb, hbl⟩ := lex_tk n _ u hd (by rw [List.length_drop]; simp only [List.length_cons] at hl ⊢; omega) e2
        refine ⟨a ++ b, by simp, fun x hx => (List.mem_append.mp hx).elim (ha x) (hb x), ?_⟩
        have := hp.2.2
        rw [List.length_map] at this
        rw [List.length_drop] at hbl
        rw [List.length_append]
        omega
theorem lex_toks {l : Tx} {ts : List QL.D} (hl : l.length ≤ 1000000) (h : lex l = some ts) : ∃ tk : List Tk, ts = tk.map Tk.D ∧ (∀ x ∈ tk, TkOk x) ∧ tk.length ≤ l.length := lex_tk _ l ts (Nat.le_refl _) hl h
theorem Tk.D_inj : ∀ {a b : Tk}, a.D = b.D → a = b := by
  intro a b h
  have t1 : ∀ {x y : Tx} {p q : QL.D}, QL.D.tup [.str x, p] = .tup [.str y, q] → x = y ∧ p = q := fun e => by
    injection e with e
    injection e with e1 e2
    injection e1 with e1
    injection e2 with e2 _
    exact ⟨e1, e2⟩
  obtain ⟨t2, t3, t4⟩ := tags
  cases a <;> cases b
  · have := (t1 h).2; injection this with this; rw [this]
  · exact absurd (t1 h).1 t2
  · exact absurd (t1 h).1 t3
  · exact absurd (t1 h).1.symm t2
  · have := (t1 h).2; injection this with this; rw [Int.ofNat_inj.mp this]
  · exact absurd (t1 h).1 t4
  · exact absurd (t1 h).1.symm t3
  · exact absurd (t1 h).1.symm t4
  · have := (t1 h).2; injection this with this; injection this with this _; rw [this]
/-! ### expressions -/
inductive Ex where
  | num (n : Nat) | var (v : Tx) | bin (s : Nat) (l r : Ex)
  deriving DecidableEq
def Ex.D : Ex → QL.D
  | .num n => .tup [.str (tx "number"), .int n]
  | .var v => .tup [.str (tx "variable"), .str v]
  | .bin s l r => .tup [.str [s], l.D, r.D]
def Ex.ht : Ex → Nat
  | .num _ => 1
  | .var _ => 1
  | .bin _ l r => 1 + max l.ht r.ht
def KWS : List Tx := [tx "entry", tx "goto", tx "else", tx "if", tx "print", tx "block", tx "loop", tx "break", tx "continue", tx "exit"]
def isName (v : Tx) : Bool := decide (¬ 46 ∈ v) && decide (¬ v ∈ KWS)
abbrev PR := List Tk → Option (Ex × Nat × List Tk)
def primP (cmp : PR) : PR
  | .y c :: r => if c = 40 then (match cmp r with
      | some (e, h, .y d :: r') => if d = 41 then some (e, h, r') else none
      | _ => none) else none
  | .n n :: r => some (.num n, 1, r)
  | .w v :: r => if isName v = true then some (.var v, 1, r) else none
  | [] => none
def loopP (ops : List Nat) (p : PR) : Nat → Ex → Nat → PR
  | 0, e, h, ts => some (e, h, ts)
  | f + 1, e, h, ts => match ts with
    | .y c :: r => if c ∈ ops then (match p r with
        | none => none
        | some (e2, h2, r2) => if 20 < 1 + max h h2 then none else loopP ops p f (.bin c e e2) (1 + max h h2) r2) else some (e, h, ts)
    | _ => some (e, h, ts)
def loopL (ops : List Nat) (p : PR) (e : Ex) (h : Nat) (ts : List Tk) : Option (Ex × Nat × List Tk) := loopP ops p ts.length e h ts
def prodP (p : PR) : PR := fun ts => match p ts with
  | none => none
  | some (e, h, r) => loopL [42] p e h r
def sumP (p : PR) : PR := fun ts => match prodP p ts with
  | none => none
  | some (e, h, r) => loopL [43, 45] (prodP p) e h r
def cmpP (p : PR) : PR := fun ts => match sumP p ts with
  | none => none
  | some (e, h, r) => match r with
    | .y c :: r' => if c = 61 ∨ c = 60 then (match sumP p r' with
        | none => none
        | some (e2, h2, r2) => if 20 < 1 + max h h2 then none else some (.bin c e e2, 1 + max h h2, r2)) else some (e, h, r)
    | _ => some (e, h, r)
def primN : Nat → PR
  | 0 => primP (fun _ => none)
  | k + 1 => primP (cmpP (primN k))
/-- what is left is shorter, and stands at the end -/
def Shr (p : PR) : Prop := ∀ ts e h r, p ts = some (e, h, r) → r.length < ts.length ∧ r <:+ ts
theorem loopP_shr {ops : List Nat} {p : PR} (hp : Shr p) : ∀ (f : Nat) (e : Ex) (h : Nat) (ts : List Tk) (e' : Ex) (h' : Nat) (r : List Tk), loopP ops p f e h ts = some (e', h', r) → r.length ≤ ts.length ∧ r <:+ ts
  | 0, e, h, ts, e', h', r, q => by
    cases q; exact ⟨Nat.le_refl _, List.suffix_refl _⟩
  | f + 1, e, h, ts, e', h', r, q => by
    unfold loopP at q
    split at q
    · split at q
      · rename_i c r0 hc
        split at q
        · cases q
        · rename_i e2 h2 r2 hq
          split at q
          · cases q
          · have h1 := hp _ _ _ _ hq
            have h2 := loopP_shr hp f _ _ _ _ _ _ q
            exact ⟨by simp only [List.length_cons]; omega, h2.2.trans (h1.2.trans (List.suffix_cons _ _))⟩
      · cases q; exact ⟨Nat.le_refl _, List.suffix_refl _⟩
    · cases q; exact ⟨Nat.le_refl _, List.suffix_refl _⟩
theorem loopP_fuel {ops : List Nat} {p : PR} (hp : Shr p) : ∀ (f g : Nat) (e : Ex) (h : Nat) (ts : List Tk), ts.length ≤ f → ts.length ≤ g → loopP ops p f e h ts = loopP ops p g e h ts
  | 0, g, e, h, ts, hf, hg => by
    have : ts = [] := List.eq_nil_of_length_eq_zero (by omega)
    subst this
    cases g <;> rfl
  | f + 1, 0, e, h, ts, hf, hg => by
    have : ts = [] := List.eq_nil_of_length_eq_zero (by omega)
    subst this
    rfl
  | f + 1, g + 1, e, h, ts, hf, hg => by
    unfold loopP
    split
    · rename_i c r
      split
      · cases q : p r with
        | none => rfl
        | some x =>
          obtain ⟨e2, h2, r2⟩ := x
          simp only
          have := (hp _ _ _ _ q).1
          simp only [List.length_cons] at hf hg
          rw [loopP_fuel hp f g _ _ r2 (by omega) (by omega)]
      · rfl
    · rfl
theorem loopL_op {ops : List Nat} {p : PR} (hp : Shr p) {e : Ex} {h c : Nat} {r : List Tk} (hc : c ∈ ops) : loopL ops p e h (.y c :: r) = match p r with
    | none => none
    | some (e2, h2, r2) => if 20 < 1 + max h h2 then none else loopL ops p (.bin c e e2) (1 + max h h2) r2 := by
  unfold loopL
  rw [List.length_cons]
  show (if c ∈ ops then (match p r with
        | none => none
        | some (e2, h2, r2) => if 20 < 1 + max h h2 then none else loopP ops p r.length (.bin c e e2) (1 + max h h2) r2) else some (e, h, .y c :: r)) = _
  rw [if_pos hc]
  cases q : p r with
  | none => rfl
  | some x =>
    obtain ⟨e2, h2, r2⟩ := x
    have := (hp _ _ _ _ q).1
    simp only
    rw [loopP_fuel hp r.length r2.length _ _ r2 (by omega) (Nat.le_refl _)]
theorem loopL_some {ops : List Nat} {p : PR} (hp : Shr p) {e e2 : Ex} {h h2 c : Nat} {r r2 : List Tk} (hc : c ∈ ops) (q : p r = some (e2, h2, r2)) :
    loopL ops p e h (.y c :: r) = if 20 < 1 + max h h2 then none else loopL ops p (.bin c e e2) (1 + max h h2) r2 := by rw [loopL_op hp hc, q]
theorem loopL_none {ops : List Nat} {p : PR} (hp : Shr p) {e : Ex} {h c : Nat} {r : List Tk} (hc : c ∈ ops) (q : p r = none) : loopL ops p e h (.y c :: r) = none := by rw [loopL_op hp hc, q]
def NoOp (ops : List Nat) (ts : List Tk) : Prop := ∀ c, ts.head? = some (.y c) → ¬ c ∈ ops
theorem loopL_stop {ops : List Nat} {p : PR} {e : Ex} {h : Nat} {ts : List Tk} (hn : NoOp ops ts) : loopL ops p e h ts = some (e, h, ts) := by
  unfold loopL
  cases ts with
  | nil => rfl
  | cons t r =>
    rw [List.length_cons]
    unfold loopP
    cases t with
    | y c =>
      show (if c ∈ ops then _ else _) = _
      rw [if_neg (hn c rfl)]
    | w v => rfl
    | n m => rfl
theorem loopL_shr {ops : List Nat} {p : PR} (hp : Shr p) {e : Ex} {h : Nat} {ts : List Tk} {e' : Ex} {h' : Nat} {r : List Tk} (q : loopL ops p e h ts = some (e', h', r)) : r.length ≤ ts.length ∧ r <:+ ts := loopP_shr hp _ _ _ _ _ _ _ q
theorem prodP_shr {p : PR} (hp : Shr p) : Shr (prodP p) := fun ts e h r q => by
  unfold prodP at q
  split at q
  · cases q
  · rename_i e1 h1 r1 q1
    have a := hp _ _ _ _ q1
    have b := loopL_shr hp q
    exact ⟨by omega, b.2.trans a.2⟩
theorem sumP_shr {p : PR} (hp : Shr p) : Shr (sumP p) := fun ts e h r q => by
  unfold sumP at q
  split at q
  · cases q
  · rename_i e1 h1 r1 q1
    have a := prodP_shr hp _ _ _ _ q1
    have b := loopL_shr (prodP_shr hp) q
    exact ⟨by omega, b.2.trans a.2⟩
theorem cmpP_shr {p : PR} (hp : Shr p) : Shr (cmpP p) := fun ts e h r q => by
  unfold cmpP at q
  split at q
  · cases q
  · rename_i e1 h1 r1 q1
    have a := sumP_shr hp _ _ _ _ q1
    split at q
    · split at q
      · split at q
        · cases q
        · rename_i e2 h2 r2 q2
          have b := sumP_shr hp _ _ _ _ q2
          split at q
          · cases q
          · cases q
            simp only [List.length_cons] at a
            exact ⟨by omega, b.2.trans ((List.suffix_cons _ _).trans a.2)⟩
      · cases q; exact a
    · cases q; exact a
theorem primP_shr {p : PR} (hp : Shr p) : Shr (primP p) := fun ts e h r q => by
  unfold primP at q
  split at q
  · split at q
    · split at q
      · rename_i q1
        have a := hp _ _ _ _ q1
        split at q
        · cases q
          simp only [List.length_cons] at a ⊢
          exact ⟨by omega, (List.suffix_cons _ _).trans (a.2.trans (List.suffix_cons _ _))⟩
        · cases q
      · cases q
    · cases q
  · cases q; exact ⟨by simp, List.suffix_cons _ _⟩
  · split at q
    · cases q; exact ⟨by simp, List.suffix_cons _ _⟩
    · cases q
  · cases q
theorem primN_shr : ∀ k, Shr (primN k)
  | 0 => primP_shr fun _ _ _ _ q => by cases q
  | k + 1 => primP_shr (cmpP_shr (primN_shr k))
/-! ### texts that are expressions -/
inductive Der : Nat → Nat → List Tk → Ex → Prop where
  | num {k n : Nat} : Der 3 k [.n n] (.num n)
  | var {k : Nat} {v : Tx} (h : isName v = true) : Der 3 k [.w v] (.var v)
  | par {k : Nat} {ts : List Tk} {e : Ex} (h : Der 0 k ts e) : Der 3 (k + 1) (.y 40 :: (ts ++ [.y 41])) e
  | up {l k : Nat} {ts : List Tk} {e : Ex} (h : Der (l + 1) k ts e) : Der l k ts e
  | mul {k : Nat} {ts us : List Tk} {e f : Ex} (a : Der 2 k ts e) (b : Der 3 k us f) : Der 2 k (ts ++ .y 42 :: us) (.bin 42 e f)
  | add {k c : Nat} {ts us : List Tk} {e f : Ex} (hc : c = 43 ∨ c = 45) (a : Der 1 k ts e) (b : Der 2 k us f) : Der 1 k (ts ++ .y c :: us) (.bin c e f)
  | cmp {k c : Nat} {ts us : List Tk} {e f : Ex} (hc : c = 61 ∨ c = 60) (a : Der 1 k ts e) (b : Der 1 k us f) : Der 0 k (ts ++ .y c :: us) (.bin c e f)
/-- what the reader makes of it -/
def Got (l k : Nat) (ts : List Tk) (e : Ex) (rest : List Tk) : Prop := match l with
  | 0 => NoOp [42, 43, 45, 61, 60] rest → cmpP (primN k) (ts ++ rest) = some (e, e.ht, rest)
  | 1 => NoOp [42] rest → sumP (primN k) (ts ++ rest) = loopL [43, 45] (prodP (primN k)) e e.ht rest
  | 2 => prodP (primN k) (ts ++ rest) = loopL [42] (primN k) e e.ht rest
  | 3 => primN k (ts ++ rest) = some (e, e.ht, rest)
  | _ => True
theorem noOp_sub {a b : List Nat} {ts : List Tk} (h : NoOp b ts) (s : ∀ c ∈ a, c ∈ b) : NoOp a ts := fun c e m => h c e (s c m)
theorem noOp_y {ops : List Nat} {c : Nat} {ts : List Tk} (h : ¬ c ∈ ops) : NoOp ops (.y c :: ts) := fun d e => by
  have : c = d := by simpa using e
  rw [← this]; exact h
theorem noOp_nil {ops : List Nat} : NoOp ops [] := fun d e => by cases e
theorem der_4 {l k : Nat} {ts : List Tk} {e : Ex} (h : Der l k ts e) : l ≤ 3 := by
  induction h with
  | up _ ih => omega
  | _ => omega
theorem der_got {l j : Nat} {ts : List Tk} {e : Ex} (h : Der l j ts e) : ∀ (k : Nat) (rest : List Tk), j ≤ k → e.ht ≤ 20 → Got l k ts e rest := by
  induction h with
  | num => intro k rest hk he; cases k <;> rfl
  | var hv =>
    intro k rest hk he
    cases k <;> exact if_pos hv
  | par h ih =>
    intro k rest hk he
    cases k with
    | zero => omega
    | succ k =>
      have := ih k (.y 41 :: rest) (by omega) he (noOp_y (by decide))
      show primP (cmpP (primN k)) (.y 40 :: ((_ ++ [.y 41]) ++ rest)) = _
      rw [List.append_assoc, List.singleton_append]
      show (match cmpP (primN k) (_ ++ .y 41 :: rest) with
        | some (e, h, .y d :: r') => if d = 41 then some (e, h, r') else none
        | _ => none) = _
      rw [this]
      rfl
  | @up l k0 ts e h ih =>
    intro k rest hk he
    have l4 := der_4 h
    have hh := ih k rest hk he
    match l, l4, hh with
    | 0, _, hh =>
      intro hn
      have q := hh (noOp_sub hn (by decide))
      unfold cmpP
      rw [q, loopL_stop (noOp_sub hn (by decide))]
      simp only
      cases rest with
      | nil => rfl
      | cons t r =>
        cases t with
        | y c =>
          have := hn c rfl
          simp only
          rw [if_neg (fun z => this (by rcases z with rfl | rfl <;> decide))]
        | w v => rfl
        | n m => rfl
    | 1, _, hh =>
      intro hn
      have q : prodP (primN k) (ts ++ rest) = _ := hh
      unfold sumP
      rw [q, loopL_stop hn]
    | 2, _, hh =>
      have q : primN k (ts ++ rest) = _ := hh
      show prodP (primN k) (ts ++ rest) = _
      unfold prodP
      rw [q]
    | l + 3, l4, _ => omega
  | @mul k0 ts us e f a b iha ihb =>
    intro k rest hk he
    simp only [Ex.ht] at he
    have q1 : prodP (primN k) (ts ++ (.y 42 :: (us ++ rest))) = _ := iha k (.y 42 :: (us ++ rest)) hk (by omega)
    have q2 : primN k (us ++ rest) = _ := ihb k rest hk (by omega)
    show prodP (primN k) ((ts ++ .y 42 :: us) ++ rest) = _
    rw [List.append_assoc, List.cons_append, q1, loopL_op (primN_shr k) (by decide), q2]
    simp only
    rw [if_neg (by omega)]
    rfl
  | @add k0 c ts us e f hc a b iha ihb =>
    intro k rest hk he hn
    simp only [Ex.ht] at he
    have c42 : ¬ c ∈ [42] := by rcases hc with rfl | rfl <;> decide
    have cin : c ∈ [43, 45] := by rcases hc with rfl | rfl <;> decide
    have q1 := iha k (.y c :: (us ++ rest)) hk (by omega) (noOp_y c42)
    have q2 : prodP (primN k) (us ++ rest) = _ := ihb k rest hk (by omega)
    rw [loopL_stop hn] at q2
    rw [List.append_assoc, List.cons_append, q1, loopL_op (prodP_shr (primN_shr k)) cin, q2]
    simp only
    rw [if_neg (by omega)]
    rfl
  | @cmp k0 c ts us e f hc a b iha ihb =>
    intro k rest hk he hn
    simp only [Ex.ht] at he
    have c42 : ¬ c ∈ [42] := by rcases hc with rfl | rfl <;> decide
    have c43 : ¬ c ∈ [43, 45] := by rcases hc with rfl | rfl <;> decide
    have q1 := iha k (.y c :: (us ++ rest)) hk (by omega) (noOp_y c42)
    rw [loopL_stop (noOp_y c43)] at q1
    have q2 := ihb k rest hk (by omega) (noOp_sub hn (by decide))
    rw [loopL_stop (noOp_sub hn (by decide))] at q2
    unfold cmpP
    rw [List.append_assoc, List.cons_append, q1]
    simp only
    rw [if_pos hc, q2]
    simp only
    rw [if_neg (by omega)]
    rfl
/-! ### signs, compared -/
theorem deq_tk (a b : Tk) : deq a.D b.D = decide (a = b) := by
  obtain ⟨t2, t3, t4⟩ := tags
  have s2 := Ne.symm t2
  have s3 := Ne.symm t3
  have s4 := Ne.symm t4
  have e2 : ∀ (k l : Tx) (x y : QL.D), deq (.tup [.str k, x]) (.tup [.str l, y]) = (decide (k = l) && deq x y) := fun k l x y => by
    rw [deq_tup_cons, deq_tup_cons, deq_tup_nil, deq_str, Bool.and_true]
  cases a <;> cases b <;> simp [Tk.D, dW, dN, dY, e2, t2, t3, t4, s2, s3, s4, deq_str, deq_int, Int.ofNat_inj]
def hdD : List Tk → QL.D
  | [] => .tup [.non, .non]
  | t :: _ => t.D
theorem deq_hd (ts : List Tk) (t : Tk) : deq (hdD ts) t.D = decide (ts.head? = some t) := by
  cases ts with
  | nil => cases t <;> rfl
  | cons a r => simp [hdD, deq_tk]
theorem deq_hd' (ts : List Tk) (t : Tk) : deq t.D (hdD ts) = decide (ts.head? = some t) := by
  cases ts with
  | nil => cases t <;> rfl
  | cons a r =>
    simp only [hdD, deq_tk, List.head?_cons, Option.some.injEq]
    by_cases h : t = a
    · simp [h]
    · simp [h, Ne.symm h]
/-- the two signs that may stand first -/
theorem any_hd (ts : List Tk) (a b : Nat) : ([(Tk.y a).D, (Tk.y b).D].any fun x => deq x (hdD ts)) = true ↔ ∃ c r, ts = .y c :: r ∧ (c = a ∨ c = b) := by
  simp only [List.any_cons, List.any_nil, deq_hd', Bool.or_false, Bool.or_eq_true, decide_eq_true_eq]
  constructor
  · intro h
    cases ts with
    | nil => rcases h with h | h <;> cases h
    | cons t r => rcases h with h | h <;> (cases h; exact ⟨_, r, rfl, by simp⟩)
  · rintro ⟨c, r, rfl, rfl | rfl⟩
    · exact .inl rfl
    · exact .inr rfl
theorem okN_tk (t : Tk) : okN 64 t.D = true := by cases t <;> rfl
theorem okN_hd (ts : List Tk) : okN 64 (hdD ts) = true := by
  cases ts with
  | nil => rfl
  | cons a r => exact okN_tk a
theorem name_dot {v : Tx} : isName v = (decide (¬ 46 ∈ v) && decide (¬ v ∈ KWS)) := rfl
theorem any_kw (v : Tx) : ((KWS.map QL.D.str).any fun x => deq x (.str v)) = decide (v ∈ KWS) := by
  have : ∀ l : List Tx, ((l.map QL.D.str).any fun x => deq x (.str v)) = decide (v ∈ l) := by
    intro l
    induction l with
    | nil => rfl
    | cons a l ih =>
      rw [List.map_cons, List.any_cons, ih, deq_str]
      by_cases h : a = v <;> simp [h, eq_comm]
      intro hv; exact absurd hv.symm h
  exact this KWS
end QL

namespace QL
open PySem PySem.Spec PyProof.Rows L2 PySem.NumText
/-! ### the normal text of an expression -/
def lev (c : Nat) : Nat := if c = 61 ∨ c = 60 then 0 else if c = 43 ∨ c = 45 then 1 else 2
def VarOk (v : Tx) : Prop := v ≠ [] ∧ v.length ≤ 8 ∧ (∀ c ∈ v, c ∈ LET) ∧ isName v = true
def OpOk (c : Nat) : Prop := c = 61 ∨ c = 60 ∨ c = 43 ∨ c = 45 ∨ c = 42
def ExOk : Ex → Prop
  | .num n => n ≤ 1000000
  | .var v => VarOk v
  | .bin c l r => OpOk c ∧ ExOk l ∧ ExOk r
def par (b : Bool) (t : Tx) : Tx := if b then 40 :: (t ++ [41]) else t
def parT (b : Bool) (t : List Tk) : List Tk := if b then .y 40 :: (t ++ [.y 41]) else t
def txt : Nat → Ex → Tx
  | _, .num n => numT n
  | _, .var v => v
  | lv, .bin c l r => par (decide (lev c < lv)) (txt (max (lev c) 1) l ++ 32 :: c :: 32 :: txt (lev c + 1) r)
def toks : Nat → Ex → List Tk
  | _, .num n => [.n n]
  | _, .var v => [.w v]
  | lv, .bin c l r => parT (decide (lev c < lv)) (toks (max (lev c) 1) l ++ .y c :: toks (lev c + 1) r)
theorem numT_le {n : Nat} (h : n ≤ 1000000) : (numT n).length ≤ 7 := numT_len (by decide) (by omega)
theorem txt_len : ∀ (e : Ex) (lv : Nat), ExOk e → (txt lv e).length + 5 ≤ 15 * 2 ^ e.ht
  | .num n, lv, h => by
    have := numT_le h
    show (numT n).length + 5 ≤ 15 * 2
    omega
  | .var v, lv, h => by
    have := h.2.1
    show v.length + 5 ≤ 15 * 2
    omega
  | .bin c l r, lv, h => by
    have h1 := txt_len l (max (lev c) 1) h.2.1
    have h2 := txt_len r (lev c + 1) h.2.2
    have m1 : 2 ^ l.ht ≤ 2 ^ max l.ht r.ht := Nat.pow_le_pow_right (by decide) (Nat.le_max_left _ _)
    have m2 : 2 ^ r.ht ≤ 2 ^ max l.ht r.ht := Nat.pow_le_pow_right (by decide) (Nat.le_max_right _ _)
    show (par _ _).length + 5 ≤ 15 * 2 ^ (1 + max l.ht r.ht)
    rw [Nat.pow_add, Nat.pow_one]
    have : (par (decide (lev c < lv)) (txt (max (lev c) 1) l ++ 32 :: c :: 32 :: txt (lev c + 1) r)).length ≤ (txt (max (lev c) 1) l).length + (txt (lev c + 1) r).length + 5 := by
      unfold par
      split <;> simp <;> omega
    omega
/-- what may stand behind -/
def Sep (r : Tx) : Prop := ∀ c, r.head? = some c → ¬ c ∈ LET ∧ ¬ c ∈ DIG ∧ c ≠ 46
theorem sep_nil : Sep [] := fun c h => by cases h
theorem sep_sp {r : Tx} : Sep (32 :: r) := fun c h => by cases h; exact ⟨sp_other.1, sp_other.2.1, by decide⟩
theorem sep_sym {c : Nat} {r : Tx} (hc : c ∈ SYM) : Sep (c :: r) := fun d h => by
  cases h
  have := sym_other hc
  exact ⟨this.1, this.2.1, this.2.2.1⟩
theorem op_sym {c : Nat} (h : OpOk c) : c ∈ SYM := by
  rcases h with rfl | rfl | rfl | rfl | rfl <;> decide
theorem lex_txt : ∀ (e : Ex) (lv : Nat) (r : Tx), ExOk e → Sep r → lex (txt lv e ++ r) = (lex r).map ((toks lv e).map Tk.D ++ ·)
  | .num n, lv, r, h, s => lex_num h fun c hc => (s c hc).2.1
  | .var v, lv, r, h, s => lex_word ⟨v, h.1, h.2.1, h.2.2.1, .inl rfl⟩ (fun z c hc => (s c hc).2.1) fun _ c hc => ⟨(s c hc).1, (s c hc).2.2⟩
  | .bin c l r', lv, r, h, s => by
    have body : ∀ r, Sep r → lex ((txt (max (lev c) 1) l ++ 32 :: c :: 32 :: txt (lev c + 1) r') ++ r) = (lex r).map (((toks (max (lev c) 1) l ++ .y c :: toks (lev c + 1) r').map Tk.D) ++ ·) := fun r s => by
      have e : (txt (max (lev c) 1) l ++ 32 :: c :: 32 :: txt (lev c + 1) r') ++ r = txt (max (lev c) 1) l ++ (32 :: c :: 32 :: (txt (lev c + 1) r' ++ r)) := by simp
      rw [e, lex_txt l _ _ h.2.1 sep_sp, lex_space, lex_sym (op_sym h.1), lex_space, lex_txt r' _ _ h.2.2 s]
      cases lex r <;> simp [Tk.D]
    show lex (par (decide (lev c < lv)) _ ++ r) = (lex r).map ((parT (decide (lev c < lv)) _).map Tk.D ++ ·)
    unfold par parT
    cases decide (lev c < lv) with
    | true =>
      simp only [if_true]
      have e : (40 :: ((txt (max (lev c) 1) l ++ 32 :: c :: 32 :: txt (lev c + 1) r') ++ [41])) ++ r = 40 :: ((txt (max (lev c) 1) l ++ 32 :: c :: 32 :: txt (lev c + 1) r') ++ (41 :: r)) := by simp
      rw [e, lex_sym (by decide), body _ (sep_sym (by decide)), lex_sym (by decide)]
      cases lex r <;> simp [Tk.D]
    | false => exact body r s
theorem lex_text {e : Ex} {lv : Nat} (h : ExOk e) : lex (txt lv e) = some ((toks lv e).map Tk.D) := by
  have := lex_txt e lv [] h sep_nil
  rw [List.append_nil, lex_nil] at this
  simpa using this
/-- how deep parentheses stand in it -/
def pdep : Nat → Ex → Nat
  | _, .num _ => 0
  | _, .var _ => 0
  | lv, .bin c l r => max (pdep (max (lev c) 1) l) (pdep (lev c + 1) r) + (if lev c < lv then 1 else 0)
theorem pdep_le : ∀ (e : Ex) (lv : Nat), pdep lv e + 1 ≤ e.ht
  | .num _, _ => Nat.le_refl _
  | .var _, _ => Nat.le_refl _
  | .bin c l r, lv => by
    have h1 := pdep_le l (max (lev c) 1)
    have h2 := pdep_le r (lev c + 1)
    show max _ _ + _ + 1 ≤ 1 + max l.ht r.ht
    split <;> omega
theorem Der.mono {l j : Nat} {ts : List Tk} {e : Ex} (h : Der l j ts e) : ∀ {k : Nat}, j ≤ k → Der l k ts e := by
  induction h with
  | num => intro k _; exact .num
  | var h => intro k _; exact .var h
  | par h ih =>
    intro k hk
    cases k with
    | zero => omega
    | succ k => exact .par (ih (by omega))
  | up h ih => intro k hk; exact .up (ih hk)
  | mul a b iha ihb => intro k hk; exact .mul (iha hk) (ihb hk)
  | add hc a b iha ihb => intro k hk; exact .add hc (iha hk) (ihb hk)
  | cmp hc a b iha ihb => intro k hk; exact .cmp hc (iha hk) (ihb hk)
theorem Der.down {a b k : Nat} {ts : List Tk} {e : Ex} (h : Der a k ts e) (hb : b ≤ a) : Der b k ts e := by
  obtain ⟨n, rfl⟩ : ∃ n, a = b + n := ⟨a - b, by omega⟩
  clear hb
  induction n with
  | zero => exact h
  | succ n ih => exact ih (.up h)
theorem toks_der : ∀ (e : Ex) (lv : Nat), lv ≤ 3 → ExOk e → Der lv (pdep lv e) (toks lv e) e
  | .num n, lv, hl, h => Der.num.down hl
  | .var v, lv, hl, h => (Der.var h.2.2.2).down hl
  | .bin c l r, lv, hl, h => by
    have lc : lev c ≤ 2 := by unfold lev; split <;> (try split) <;> omega
    have h1 := (toks_der l (max (lev c) 1) (by omega) h.2.1).mono (k := max (pdep (max (lev c) 1) l) (pdep (lev c + 1) r)) (Nat.le_max_left _ _)
    have h2 := (toks_der r (lev c + 1) (by omega) h.2.2).mono (k := max (pdep (max (lev c) 1) l) (pdep (lev c + 1) r)) (Nat.le_max_right _ _)
    have body : Der (lev c) (max (pdep (max (lev c) 1) l) (pdep (lev c + 1) r)) (toks (max (lev c) 1) l ++ .y c :: toks (lev c + 1) r) (.bin c l r) := by
      generalize max (pdep (max (lev c) 1) l) (pdep (lev c + 1) r) = k at h1 h2
      rcases h.1 with rfl | rfl | rfl | rfl | rfl
      · exact .cmp (.inl rfl) h1 h2
      · exact .cmp (.inr rfl) h1 h2
      · exact .add (.inl rfl) h1 h2
      · exact .add (.inr rfl) h1 h2
      · exact .mul h1 h2
    show Der lv (max _ _ + _) (parT _ _) _
    unfold parT
    by_cases hq : lev c < lv
    · rw [if_pos hq, decide_eq_true hq, if_pos rfl]
      exact (Der.par (body.down (Nat.zero_le _))).down hl
    · rw [if_neg hq, decide_eq_false hq]
      exact body.down (by omega)
theorem der_parse {ts : List Tk} {e : Ex} {k : Nat} (h : Der 0 k ts e) (hk : k ≤ 20) (he : e.ht ≤ 20) : cmpP (primN 20) ts = some (e, e.ht, []) := by
  have := der_got h 20 [] hk he noOp_nil
  rwa [List.append_nil] at this
theorem head_der {l k : Nat} {ts : List Tk} {e : Ex} (h : Der l k ts e) : ∃ t r, ts = t :: r ∧ ∀ c, t = .y c → c = 40 := by
  induction h with
  | num => exact ⟨_, _, rfl, fun c z => by cases z⟩
  | var => exact ⟨_, _, rfl, fun c z => by cases z⟩
  | par => exact ⟨_, _, rfl, fun c z => by cases z; rfl⟩
  | up _ ih => exact ih
  | mul _ _ ih _ => obtain ⟨t, r, rfl, h⟩ := ih; exact ⟨t, _, rfl, h⟩
  | add _ _ _ ih _ => obtain ⟨t, r, rfl, h⟩ := ih; exact ⟨t, _, rfl, h⟩
  | cmp _ _ _ ih _ => obtain ⟨t, r, rfl, h⟩ := ih; exact ⟨t, _, rfl, h⟩
theorem any_nv (t : Tx) : ([QL.D.str (tx "number"), QL.D.str (tx "variable")].any fun x => deq x (.str t)) = (decide (t = tx "number") || decide (t = tx "variable")) := by
  simp only [List.any_cons, List.any_nil, deq_str, Bool.or_false]
  rw [decide_eq_decide.mpr eq_comm, decide_eq_decide (p := tx "variable" = t) |>.mpr eq_comm]
theorem tag1 (c : Nat) : (decide ([c] = tx "number") || decide ([c] = tx "variable")) = false := by
  have a : ¬ [c] = tx "number" := fun h => by have := congrArg List.length h; exact absurd this (show ¬ (1 = 6) by decide)
  have b : ¬ [c] = tx "variable" := fun h => by have := congrArg List.length h; exact absurd this (show ¬ (1 = 8) by decide)
  simp [a, b]
/-- the levels as they are written -/
def LVS : List (Tx × QL.D) := [(tx "=", .int 0), (tx "<", .int 0), (tx "+", .int 1), (tx "-", .int 1), (tx "*", .int 2)]
theorem lvs_op {c : Nat} (h : OpOk c) : LVS.lookup [c] = some (.int (lev c)) := by
  rcases h with rfl | rfl | rfl | rfl | rfl <;> rfl
theorem lvs_num : LVS.lookup (tx "number") = none := by rfl
theorem lvs_var : LVS.lookup (tx "variable") = none := by rfl
end QL

namespace QL
open PySem PySem.Spec PyProof.Rows L2 PySem.NumText
/-! ### chains of one operation -/
def OpA (c : Nat) : Prop := c = 43 ∨ c = 45 ∨ c = 42
theorem OpA.ok {c : Nat} (h : OpA c) : OpOk c := by unfold OpA at h; unfold OpOk; omega
theorem OpA.lev {c : Nat} (h : OpA c) : 1 ≤ lev c ∧ lev c ≤ 2 := by
  rcases h with rfl | rfl | rfl <;> decide
def chL (c : Nat) : Nat → Ex
  | 0 => .var [120]
  | j + 1 => .bin c (chL c j) (.num 1)
def chR (c : Nat) : Nat → Ex
  | 0 => .num 1
  | j + 1 => .bin c (.var [120]) (chR c j)
theorem var_x : VarOk [120] := ⟨by decide, by decide, by decide, by decide +kernel⟩
theorem chL_ok {c : Nat} (h : OpA c) : ∀ j, ExOk (chL c j)
  | 0 => var_x
  | j + 1 => ⟨h.ok, chL_ok h j, (by decide : 1 ≤ 1000000)⟩
theorem chR_ok {c : Nat} (h : OpA c) : ∀ j, ExOk (chR c j)
  | 0 => (by decide : 1 ≤ 1000000)
  | j + 1 => ⟨h.ok, var_x, chR_ok h j⟩
theorem chL_ht (c : Nat) : ∀ j, (chL c j).ht = j + 1
  | 0 => rfl
  | j + 1 => by show 1 + max (chL c j).ht 1 = _; rw [chL_ht c j]; omega
theorem chR_ht (c : Nat) : ∀ j, (chR c j).ht = j + 1
  | 0 => rfl
  | j + 1 => by show 1 + max 1 (chR c j).ht = _; rw [chR_ht c j]; omega
def txL (c j : Nat) : Tx := [120] ++ (List.replicate j [32, c, 32, 49]).flatten
theorem rep_snoc {α : Type} (j : Nat) (x : List α) : (List.replicate (j + 1) x).flatten = (List.replicate j x).flatten ++ x := by
  rw [List.replicate_succ', List.flatten_append]; simp
theorem numT_1 : numT 1 = [49] := numT_small (by decide)
theorem txt_chL {c : Nat} (h : OpA c) : ∀ j lv, lv ≤ lev c → txt lv (chL c j) = txL c j
  | 0, lv, _ => rfl
  | j + 1, lv, hl => by
    have l1 := h.lev
    show par (decide (lev c < lv)) (txt (max (lev c) 1) (chL c j) ++ 32 :: c :: 32 :: numT 1) = _
    rw [decide_eq_false (by omega), txt_chL h j _ (by omega), numT_1]
    unfold txL
    rw [rep_snoc]
    simp [par]
def nP (c : Nat) : Nat → Tx
  | 0 => [49]
  | j + 1 => [40] ++ ([120, 32] ++ [c] ++ [32] ++ nP c j) ++ [41]
def nB (c : Nat) : Nat → Tx
  | 0 => [49]
  | j + 1 => [120, 32] ++ [c] ++ [32] ++ nP c j
theorem txt_chR {c : Nat} (h : OpA c) : ∀ j, txt (lev c + 1) (chR c j) = nP c j
  | 0 => numT_1
  | j + 1 => by
    show par (decide (lev c < lev c + 1)) ([120] ++ 32 :: c :: 32 :: txt (lev c + 1) (chR c j)) = _
    rw [decide_eq_true (by omega), txt_chR h j]
    simp [par, nP]
theorem txt_chR0 {c : Nat} (h : OpA c) : ∀ j, txt 0 (chR c j) = nB c j
  | 0 => numT_1
  | j + 1 => by
    show par (decide (lev c < 0)) ([120] ++ 32 :: c :: 32 :: txt (lev c + 1) (chR c j)) = _
    rw [decide_eq_false (by omega), txt_chR h j]
    simp [par, nB]
theorem txL_len (c j : Nat) : (txL c j).length = 1 + 4 * j := by
  unfold txL
  induction j with
  | zero => rfl
  | succ j ih => rw [rep_snoc, List.length_append, List.length_append]; rw [List.length_append] at ih; simp at ih ⊢; omega
theorem nP_len (c : Nat) : ∀ j, (nP c j).length = 1 + 6 * j
  | 0 => rfl
  | j + 1 => by
    have := nP_len c j
    simp [nP]; omega
theorem nB_len (c : Nat) : ∀ j, (nB c j).length ≤ 1 + 6 * j
  | 0 => Nat.le_refl _
  | j + 1 => by
    have := nP_len c j
    simp [nB]; omega
/-! parentheses around -/
def rp (m c : Nat) : Tx := (List.replicate m [c]).flatten
theorem rp_eq (m c : Nat) : rp m c = List.replicate m c := by
  unfold rp
  induction m with
  | zero => rfl
  | succ m ih => rw [List.replicate_succ, List.flatten_cons, ih, List.replicate_succ]; rfl
theorem lex_rp {c : Nat} (hc : c ∈ SYM) : ∀ (m : Nat) (l : Tx), lex (rp m c ++ l) = (lex l).map ((List.replicate m (Tk.y c)).map Tk.D ++ ·)
  | 0, l => by show lex l = _; cases lex l <;> simp
  | m + 1, l => by
    have ih := lex_rp hc m l
    rw [rp_eq] at ih ⊢
    rw [List.replicate_succ, List.cons_append, lex_sym hc, ih, List.replicate_succ]
    cases lex l <;> simp [Tk.D]
theorem sep_rp {m c : Nat} (hc : c ∈ SYM) : Sep (rp m c) := by
  rw [rp_eq]
  cases m with
  | zero => exact sep_nil
  | succ m => rw [List.replicate_succ]; exact sep_sym hc
def pars (m : Nat) (T : List Tk) : List Tk := List.replicate m (.y 40) ++ (T ++ List.replicate m (.y 41))
theorem lex_pars {e : Ex} (he : ExOk e) (lv m : Nat) : lex (rp m 40 ++ txt lv e ++ rp m 41) = some ((pars m (toks lv e)).map Tk.D) := by
  rw [List.append_assoc, lex_rp (by decide), lex_txt e lv _ he (sep_rp (by decide))]
  have : lex (rp m 41) = some ((List.replicate m (Tk.y 41)).map Tk.D) := by
    have := lex_rp (c := 41) (by decide) m []
    rw [List.append_nil, lex_nil] at this
    simpa using this
  rw [this]
  simp [pars]
theorem der_pars {k : Nat} {T : List Tk} {e : Ex} (h : Der 0 k T e) : ∀ m, Der 0 (k + m) (pars m T) e
  | 0 => by simpa [pars] using h
  | m + 1 => by
    have := (Der.par (der_pars h m)).down (Nat.zero_le 3)
    have e1 : Tk.y 40 :: (pars m T ++ [.y 41]) = pars (m + 1) T := by
      unfold pars
      rw [List.replicate_succ, List.replicate_succ', List.cons_append]
      simp
    rw [e1] at this
    exact this
theorem cmp_none {k : Nat} {ts : List Tk} (h : primN k ts = none) : cmpP (primN k) ts = none := by unfold cmpP sumP prodP; rw [h]
theorem pars_none : ∀ (m k : Nat) (ts : List Tk), (m ≤ k → cmpP (primN (k - m)) ts = none) → cmpP (primN k) (List.replicate m (.y 40) ++ ts) = none
  | 0, k, ts, h => by simpa using h (Nat.zero_le _)
  | m + 1, 0, ts, h => cmp_none rfl
  | m + 1, k + 1, ts, h => by
    refine cmp_none ?_
    have ih := pars_none m k ts fun hm => by
      have := h (by omega)
      rwa [Nat.add_sub_add_right] at this
    rw [List.replicate_succ, List.cons_append]
    show (match cmpP (primN k) (List.replicate m (.y 40) ++ ts) with
      | some (e, h, .y d :: r') => if d = 41 then some (e, h, r') else none
      | _ => none) = none
    rw [ih]
/-! the left chain -/
def tl (c j : Nat) : List Tk := (List.replicate j [Tk.y c, .n 1]).flatten
theorem toks_chL {c : Nat} (h : OpA c) : ∀ j lv, lv ≤ lev c → toks lv (chL c j) = .w [120] :: tl c j
  | 0, lv, _ => rfl
  | j + 1, lv, hl => by
    have l1 := h.lev
    show parT (decide (lev c < lv)) (toks (max (lev c) 1) (chL c j) ++ .y c :: [.n 1]) = _
    rw [decide_eq_false (by omega), toks_chL h j _ (by omega)]
    unfold tl
    rw [rep_snoc]
    simp [parT]
theorem chain_none {ops : List Nat} {p : PR} (hp : Shr p) {c : Nat} (hc : c ∈ ops) {rest : List Tk} (hn : ∀ j, 0 < j → p (.n 1 :: (tl c j ++ rest)) = some (.num 1, 1, tl c j ++ rest)) :
    ∀ (j : Nat) (e : Ex) (h : Nat), 1 ≤ h → h ≤ 20 → 20 < h + j → loopL ops p e h (tl c j ++ rest) = none
  | 0, e, h, h1, h2, h3 => by omega
  | j + 1, e, h, h1, h2, h3 => by
    have et : tl c (j + 1) ++ rest = .y c :: (.n 1 :: (tl c j ++ rest)) := by
      unfold tl; rw [List.replicate_succ, List.flatten_cons]; rfl
    rw [et]
    by_cases hj : 0 < j
    · rw [loopL_some hp hc (hn j hj)]
      split
      · rfl
      · exact chain_none hp hc hn j _ _ (by omega) (by omega) (by omega)
    · obtain rfl : j = 0 := by omega
      cases q : p (.n 1 :: (tl c 0 ++ rest)) with
      | none => exact loopL_none hp hc q
      | some x =>
        obtain ⟨e2, h2', r2⟩ := x
        rw [loopL_some hp hc q, if_pos (by omega)]
theorem head_tl {c j : Nat} {rest : List Tk} (hj : 0 < j) : ∃ r, tl c j ++ rest = .y c :: r := by
  obtain ⟨i, rfl⟩ : ∃ i, j = i + 1 := ⟨j - 1, by omega⟩
  exact ⟨_, by unfold tl; rw [List.replicate_succ, List.flatten_cons]; rfl⟩
theorem prim_w (k : Nat) (r : List Tk) : primN k (.w [120] :: r) = some (.var [120], 1, r) := by
  have h : isName [120] = true := by decide +kernel
  cases k <;> (show (if isName [120] = true then some (Ex.var [120], 1, r) else none) = _; rw [if_pos h])
theorem prim_1 (k : Nat) (r : List Tk) : primN k (.n 1 :: r) = some (.num 1, 1, r) := by
  cases k <;> rfl
theorem left_none {c : Nat} (h : OpA c) (k j : Nat) (rest : List Tk) (hj : 20 ≤ j) : cmpP (primN k) (.w [120] :: (tl c j ++ rest)) = none := by
  have hp := primN_shr k
  rcases (show c = 42 ∨ (c = 43 ∨ c = 45) by unfold OpA at h; omega) with rfl | hc
  · have : prodP (primN k) (.w [120] :: (tl 42 j ++ rest)) = none := by
      unfold prodP
      rw [prim_w]
      exact chain_none hp (by decide) (fun i _ => prim_1 k _) j _ 1 (Nat.le_refl _) (by decide) (by omega)
    unfold cmpP sumP
    rw [this]
  · have c42 : ¬ c ∈ [42] := by rcases hc with rfl | rfl <;> decide
    have cin : c ∈ [43, 45] := by rcases hc with rfl | rfl <;> decide
    have no : ∀ i, 0 < i → NoOp [42] (tl c i ++ rest) := fun i hi => by
      obtain ⟨r, e⟩ := head_tl (c := c) (rest := rest) hi
      rw [e]; exact noOp_y c42
    have hx : prodP (primN k) (.w [120] :: (tl c j ++ rest)) = some (.var [120], 1, tl c j ++ rest) := by
      unfold prodP
      rw [prim_w]
      exact loopL_stop (no j (by omega))
    have : sumP (primN k) (.w [120] :: (tl c j ++ rest)) = none := by
      unfold sumP
      rw [hx]
      refine chain_none (prodP_shr hp) cin (fun i hi => ?_) j _ 1 (Nat.le_refl _) (by decide) (by omega)
      unfold prodP
      rw [prim_1]
      exact loopL_stop (no i hi)
    unfold cmpP
    rw [this]
/-! the right chain -/
def PT (c : Nat) : Nat → List Tk
  | 0 => [.n 1]
  | j + 1 => .y 40 :: ((.w [120] :: .y c :: PT c j) ++ [.y 41])
theorem toks_chR {c : Nat} (h : OpA c) : ∀ j, toks (lev c + 1) (chR c j) = PT c j
  | 0 => rfl
  | j + 1 => by
    show parT (decide (lev c < lev c + 1)) ([.w [120]] ++ .y c :: toks (lev c + 1) (chR c j)) = _
    rw [decide_eq_true (by omega), toks_chR h j]
    rfl
theorem toks_chR0 {c : Nat} (h : OpA c) (j : Nat) : toks 0 (chR c (j + 1)) = .w [120] :: .y c :: PT c j := by
  show parT (decide (lev c < 0)) ([.w [120]] ++ .y c :: toks (lev c + 1) (chR c j)) = _
  rw [decide_eq_false (by omega), toks_chR h j]
  rfl
theorem pdep_chR {c : Nat} (h : OpA c) : ∀ j, pdep (lev c + 1) (chR c j) = j
  | 0 => rfl
  | j + 1 => by
    show max 0 (pdep (lev c + 1) (chR c j)) + (if lev c < lev c + 1 then 1 else 0) = _
    rw [pdep_chR h j, if_pos (by omega)]; omega
theorem op_none {c k : Nat} (h : OpA c) {ts : List Tk} (h1 : primN k ts = none ∨ ∃ e r, primN k ts = some (e, 20, r) ∧ NoOp [42] r) : cmpP (primN k) (.w [120] :: .y c :: ts) = none := by
  have hp := primN_shr k
  rcases (show c = 42 ∨ (c = 43 ∨ c = 45) by unfold OpA at h; omega) with rfl | hc
  · have : prodP (primN k) (.w [120] :: .y 42 :: ts) = none := by
      unfold prodP
      rw [prim_w]
      rcases h1 with h1 | ⟨e, r, h1, _⟩
      · exact loopL_none hp (by decide) h1
      · show loopL _ _ _ _ _ = _
        rw [loopL_some hp (by decide) h1, if_pos (by decide)]
    unfold cmpP sumP
    rw [this]
  · have c42 : ¬ c ∈ [42] := by rcases hc with rfl | rfl <;> decide
    have cin : c ∈ [43, 45] := by rcases hc with rfl | rfl <;> decide
    have hx : prodP (primN k) (.w [120] :: .y c :: ts) = some (.var [120], 1, .y c :: ts) := by
      unfold prodP
      rw [prim_w]
      exact loopL_stop (noOp_y c42)
    have : sumP (primN k) (.w [120] :: .y c :: ts) = none := by
      unfold sumP
      rw [hx]
      show loopL _ _ _ _ _ = _
      rcases h1 with h1 | ⟨e, r, h1, hr⟩
      · exact loopL_none (prodP_shr hp) cin (by unfold prodP; rw [h1])
      · rw [loopL_some (prodP_shr hp) cin (show prodP (primN k) ts = some (e, 20, r) by unfold prodP; rw [h1]; exact loopL_stop hr), if_pos (by decide)]
    unfold cmpP
    rw [this]
theorem right_none {c : Nat} (h : OpA c) : ∀ (m k : Nat) (rest : List Tk), 1 ≤ m → (20 < m + 1 ∨ k < m - 1) → NoOp [42, 43, 45, 61, 60] rest → cmpP (primN k) (.w [120] :: .y c :: (PT c (m - 1) ++ rest)) = none
  | 0, _, _, h1, _, _ => by omega
  | 1, k, rest, _, h2, _ => by omega
  | m + 2, k, rest, _, h2, hr => by
    refine op_none h ?_
    show primN k (PT c (m + 1) ++ rest) = none ∨ ∃ e r, primN k (PT c (m + 1) ++ rest) = some (e, 20, r) ∧ NoOp [42] r
    have ep : PT c (m + 1) ++ rest = .y 40 :: (.w [120] :: .y c :: (PT c m ++ (.y 41 :: rest))) := by
      show (.y 40 :: ((.w [120] :: .y c :: PT c m) ++ [.y 41])) ++ rest = _
      simp
    rw [ep]
    cases k with
    | zero => exact .inl rfl
    | succ k =>
      by_cases hq : 20 < m + 1 + 1 ∨ k < m
      · left
        have := right_none h (m + 1) k (.y 41 :: rest) (by omega) (by omega) (noOp_y (by decide))
        show (match cmpP (primN k) (.w [120] :: .y c :: (PT c m ++ (.y 41 :: rest))) with
          | some (e, h, .y d :: r') => if d = 41 then some (e, h, r') else none
          | _ => none) = none
        rw [show PT c m = PT c (m + 1 - 1) from rfl, this]
      · right
        obtain rfl : m = 18 := by omega
        have dr := toks_der (chR c 19) 0 (by decide) (chR_ok h 19)
        rw [toks_chR0 h] at dr
        have pd : pdep 0 (chR c 19) = 18 := by
          show max 0 (pdep (lev c + 1) (chR c 18)) + (if lev c < 0 then 1 else 0) = 18
          rw [pdep_chR h, if_neg (by omega)]; rfl
        rw [pd] at dr
        have g := der_got dr k (.y 41 :: rest) (by omega) (by rw [chR_ht]; decide) (noOp_y (by decide))
        rw [chR_ht] at g
        refine ⟨chR c 19, rest, ?_, noOp_sub hr (by decide)⟩
        show (match cmpP (primN k) (.w [120] :: .y c :: (PT c 18 ++ (.y 41 :: rest))) with
          | some (e, h, .y d :: r') => if d = 41 then some (e, h, r') else none
          | _ => none) = _
        have g : cmpP (primN k) (.w [120] :: .y c :: (PT c 18 ++ (.y 41 :: rest))) = some (chR c 19, 20, .y 41 :: rest) := g
        rw [g]
        rfl
theorem modN (x : Int) (n : Nat) (hn : 0 < n) : ∃ i : Nat, x % (n : Int) = i ∧ i < n := by
  obtain ⟨i, hi⟩ := Int.eq_ofNat_of_zero_le (Int.emod_nonneg x (show (n : Int) ≠ 0 by omega))
  have := Int.emod_lt_of_pos x (show (0 : Int) < n by omega)
  exact ⟨i, hi, by omega⟩
theorem okN_ex : ∀ (e : Ex) (n : Nat), e.ht ≤ n → okN n e.D = true
  | .num _, 0, h => by exact absurd h (by show ¬ 1 ≤ 0; omega)
  | .var _, 0, h => by exact absurd h (by show ¬ 1 ≤ 0; omega)
  | .bin _ l r, 0, h => by exact absurd h (by show ¬ 1 + _ ≤ 0; omega)
  | .num _, n + 1, h => rfl
  | .var _, n + 1, h => rfl
  | .bin c l r, n + 1, h => by
    have h : 1 + max l.ht r.ht ≤ n + 1 := h
    have a := okN_ex l n (by omega)
    have b := okN_ex r n (by omega)
    simp [Ex.D, okN, okN.okNs, a, b]
theorem okL_ex : ∀ e : Ex, okL e.D = true
  | .num _ => by simp [Ex.D, okL, okL.okLs]
  | .var _ => by simp [Ex.D, okL, okL.okLs]
  | .bin c l r => by
    have a := okL_ex l
    have b := okL_ex r
    simp [Ex.D, okL, okL.okLs, a, b]
end QL

namespace L04
open PySem PySem.Spec PyProof.Rows L2 QL
def top (i : Nat) : Stmt := PySem.Challenge.pw_restruct_k04_values.main.body.getD i (.Pass ⟨0, 0, 0, 0⟩)
abbrev s_operated : Stmt := top 2
abbrev s_evaluate : Stmt := top 3
abbrev s_law_cell : Stmt := top 5
abbrev s_law_draws : Stmt := top 6
abbrev s_law_stream : Stmt := top 7
abbrev s_law_next : Stmt := top 8
abbrev s_law_variable : Stmt := top 9
abbrev s_law_number : Stmt := top 10
abbrev s_law_expression : Stmt := top 11
abbrev s_law_is_integer : Stmt := top 12
abbrev s_law_same : Stmt := top 13
abbrev s_law_value : Stmt := top 14
abbrev s_law : Stmt := top 15
structure Ads where
  a_operated : Addr
  d_operated : FuncData
  a_evaluate : Addr
  d_evaluate : FuncData
  a_law_cell : Addr
  d_law_cell : FuncData
  a_law_draws : Addr
  d_law_draws : FuncData
  a_law_stream : Addr
  d_law_stream : FuncData
  a_law_next : Addr
  d_law_next : FuncData
  a_law_variable : Addr
  d_law_variable : FuncData
  a_law_number : Addr
  d_law_number : FuncData
  a_law_expression : Addr
  d_law_expression : FuncData
  a_law_is_integer : Addr
  d_law_is_integer : FuncData
  a_law_same : Addr
  d_law_same : FuncData
  a_law_value : Addr
  d_law_value : FuncData
  a_law : Addr
  d_law : FuncData
  t_MOST_VALUE : Tok
structure Txt (w : World) (K : PySem.W.Frag) (mg : Str → Option Value) (A : Ads) : Prop where
  f_operated : Fun K "operated" "operated" s_operated A.a_operated A.d_operated
  b_operated : Binds K A.d_operated ["sign", "left", "right"] []
  m_operated : mg "operated" = some (.ref A.a_operated)
  f_evaluate : Fun K "evaluate" "evaluate" s_evaluate A.a_evaluate A.d_evaluate
  b_evaluate : Binds K A.d_evaluate ["expression", "variables"] []
  m_evaluate : mg "evaluate" = some (.ref A.a_evaluate)
  f_law_cell : Fun K "_law_cell" "_law_cell" s_law_cell A.a_law_cell A.d_law_cell
  b_law_cell : Binds K A.d_law_cell ["_law_script", "_law_k"] []
  m_law_cell : mg "_law_cell" = some (.ref A.a_law_cell)
  f_law_draws : Fun K "_law_draws" "_law_draws" s_law_draws A.a_law_draws A.d_law_draws
  b_law_draws : Binds K A.d_law_draws ["_law_cell_here", "_law_count"] []
  m_law_draws : mg "_law_draws" = some (.ref A.a_law_draws)
  f_law_stream : Fun K "_law_stream" "_law_stream" s_law_stream A.a_law_stream A.d_law_stream
  b_law_stream : Binds K A.d_law_stream ["_law_script", "_law_first", "_law_count"] []
  m_law_stream : mg "_law_stream" = some (.ref A.a_law_stream)
  f_law_next : Fun K "_law_next" "_law_next" s_law_next A.a_law_next A.d_law_next
  b_law_next : Binds K A.d_law_next ["_law_stream_here", "_law_many"] []
  m_law_next : mg "_law_next" = some (.ref A.a_law_next)
  f_law_variable : Fun K "_law_variable" "_law_variable" s_law_variable A.a_law_variable A.d_law_variable
  b_law_variable : Binds K A.d_law_variable ["_law_stream_here"] []
  m_law_variable : mg "_law_variable" = some (.ref A.a_law_variable)
  f_law_number : Fun K "_law_number" "_law_number" s_law_number A.a_law_number A.d_law_number
  b_law_number : Binds K A.d_law_number ["_law_stream_here"] []
  m_law_number : mg "_law_number" = some (.ref A.a_law_number)
  f_law_expression : Fun K "_law_expression" "_law_expression" s_law_expression A.a_law_expression A.d_law_expression
  b_law_expression : Binds K A.d_law_expression ["_law_stream_here", "_law_depth"] []
  m_law_expression : mg "_law_expression" = some (.ref A.a_law_expression)
  f_law_is_integer : Fun K "_law_is_integer" "_law_is_integer" s_law_is_integer A.a_law_is_integer A.d_law_is_integer
  b_law_is_integer : Binds K A.d_law_is_integer ["_law_actual"] []
  m_law_is_integer : mg "_law_is_integer" = some (.ref A.a_law_is_integer)
  f_law_same : Fun K "_law_same" "_law_same" s_law_same A.a_law_same A.d_law_same
  b_law_same : Binds K A.d_law_same ["_law_actual", "_law_expected"] []
  m_law_same : mg "_law_same" = some (.ref A.a_law_same)
  f_law_value : Fun K "_law_value" "_law_value" s_law_value A.a_law_value A.d_law_value
  b_law_value : Binds K A.d_law_value ["_law_expression_here", "_law_variables"] []
  m_law_value : mg "_law_value" = some (.ref A.a_law_value)
  f_law : Fun K "law" "law" s_law A.a_law A.d_law
  b_law : Binds K A.d_law ["_law_script"] []
  m_law : mg "law" = some (.ref A.a_law)
  k_MOST_VALUE : mg "MOST_VALUE" = some (.int 1000000 A.t_MOST_VALUE)
  z_abs : mg "abs" = none
  z_bool : mg "bool" = none
  z_int : mg "int" = none
  z_isinstance : mg "isinstance" = none
  z_len : mg "len" = none
  z_list : mg "list" = none
  z_range : mg "range" = none
  z_repr : mg "repr" = none
  z_str : mg "str" = none
  z_tuple : mg "tuple" = none

section
variable {P : Program} {w : World} {K : PySem.W.Frag} {mg : Str → Option Value} {base : Heap} {A : Ads}

abbrev N_operated : List Str := ["sign", "left", "right", "value"]
theorem sc_operated : FnScope N_operated ["sign", "left", "right"] (defScope s_operated) := ⟨rfl, rfl, rfl, by decide +kernel, rfl, by decide +kernel, by decide +kernel⟩
def w_operated (A : Ads) : DS :=
    (wSeq (wIfS (wTst (wOp eqD (wVar 0) (wC (.str (tx "="))))) (wRet (wApp intOf (wCons (wOp eqD (wVar 1) (wVar 2)) wNil))) wNext)
    (wSeq (wIfS (wTst (wOp eqD (wVar 0) (wC (.str (tx "<"))))) (wRet (wApp intOf (wCons (wOp ltD (wVar 1) (wVar 2)) wNil))) wNext)
    (wSeq (wIfS (wTst (wOp eqD (wVar 0) (wC (.str (tx "+"))))) (wAsg (wOp addD (wVar 1) (wVar 2)) (gN 3)) (wIfS (wTst (wOp eqD (wVar 0) (wC (.str (tx "-"))))) (wAsg (wOp subD (wVar 1) (wVar 2)) (gN 3)) (wAsg (wOp mulD (wVar 1) (wVar 2)) (gN 3))))
    (wSeq (wIfS (wTst (wOp gtD (wApp absD (wCons (wVar 3) wNil)) (wC (.int 1000000)))) (wRet (wC .non)) wNext)
    (wRet (wVar 3))))))
theorem der_operated (T : Txt w K mg A) {k : Nat} (cdv : Value) (A0 : Around) (outer : List PySem.Env) (s : Shared) (H : Hp) (E : XK) (hr : Room k (A0.deeper (envOfC "operated" (defScope s_operated) s.heap.objs.size A.a_operated cdv))) :
    QSs (cxOf (L2.CX P w) P w K mg base N_operated "operated" (defScope s_operated) A.a_operated cdv A0 outer s H E) (fun c od _ H => E c od H) (defBody s_operated) (w_operated A) := by
  have nd := sc_operated.nd
  have tk : Takes (cxOf (L2.CX P w) P w K mg base N_operated "operated" (defScope s_operated) A.a_operated cdv A0 outer s H E) (fun c od _ H => E c od H) := takes_of rfl rfl rfl rfl
  exact (qss_cons (qs_if (qt_cmp (op_eqD (hu64 hr)) o2_eq (qe_var 0) qe_str (nomark _)) (qss_one (qs_ret (qe_callTy call_intAll ol_int rfl T.z_int (show bootBuiltins "int" = some (.type "int") by decide +kernel) (qa_cons (qe_cmp (op_eqD (hu64 hr)) o2_eq (qe_var 1) (qe_var 2) (nomark _)) qa_nil)))) qss_nil)
    (qss_cons (qs_if (qt_cmp (op_eqD (hu64 hr)) o2_eq (qe_var 0) qe_str (nomark _)) (qss_one (qs_ret (qe_callTy call_intAll ol_int rfl T.z_int (show bootBuiltins "int" = some (.type "int") by decide +kernel) (qa_cons (qe_cmp op_lt o2_lt (qe_var 1) (qe_var 2) (nomark _)) qa_nil)))) qss_nil)
    (qss_cons (qs_if (qt_cmp (op_eqD (hu64 hr)) o2_eq (qe_var 0) qe_str (nomark _)) (qss_one (qs_set 3 nd (qe_add (qe_var 1) (qe_var 2)))) (qss_one (qs_if (qt_cmp (op_eqD (hu64 hr)) o2_eq (qe_var 0) qe_str (nomark _)) (qss_one (qs_set 3 nd (qe_sub (qe_var 1) (qe_var 2)))) (qss_one (qs_set 3 nd (qe_mul (qe_var 1) (qe_var 2)))))))
    (qss_cons (qs_if (qt_cmp op_gt o2_gt (qe_callB call_abs ol_abs rfl T.z_abs (show bootBuiltins "abs" = some (.builtin "abs") by decide +kernel) (qa_cons (qe_var 3) qa_nil)) (qe_gint rfl T.k_MOST_VALUE) (nomark _)) (qss_one (qs_ret qe_non)) qss_nil)
    (qss_one (qs_ret (qe_var 3)))))))
abbrev N_evaluate : List Str := ["expression", "variables", "left", "right"]
theorem sc_evaluate : FnScope N_evaluate ["expression", "variables"] (defScope s_evaluate) := ⟨rfl, rfl, rfl, by decide +kernel, rfl, by decide +kernel, by decide +kernel⟩
def w_evaluate (A : Ads) (p_evaluate : SpD) (p_operated : SpD) : DS :=
    (wSeq (wIfS (wTst (wOp eqD (wOp ixD (wVar 0) (wC (.int 0))) (wC (.str (tx "number"))))) (wRet (wOp ixD (wVar 0) (wC (.int 1)))) wNext)
    (wSeq (wIfS (wTst (wOp eqD (wOp ixD (wVar 0) (wC (.int 0))) (wC (.str (tx "variable"))))) (wRet (wDget2 (wVar 1) (wOp ixD (wVar 0) (wC (.int 1))) (wC (.int 0)))) wNext)
    (wSeq (wAsg (wCall p_evaluate (wCons (wOp ixD (wVar 0) (wC (.int 1))) (wCons (wVar 1) wNil))) (gN 2))
    (wSeq (wIfS (wTst (wOp (isND false) (wVar 2) (wC .non))) (wRet (wC .non)) wNext)
    (wSeq (wAsg (wCall p_evaluate (wCons (wOp ixD (wVar 0) (wC (.int 2))) (wCons (wVar 1) wNil))) (gN 3))
    (wSeq (wIfS (wTst (wOp (isND false) (wVar 3) (wC .non))) (wRet (wC .non)) wNext)
    (wRet (wCall p_operated (wCons (wOp ixD (wVar 0) (wC (.int 0))) (wCons (wVar 2) (wCons (wVar 3) wNil)))))))))))
theorem der_evaluate (T : Txt w K mg A) {k : Nat} {k_evaluate : Nat} {p_evaluate : SpD} (G_evaluate : FnD P w K mg base k_evaluate A.a_evaluate A.d_evaluate ["expression", "variables"] p_evaluate) (h_evaluate : k_evaluate ≤ k) {k_operated : Nat} {p_operated : SpD} (G_operated : FnD P w K mg base k_operated A.a_operated A.d_operated ["sign", "left", "right"] p_operated) (h_operated : k_operated ≤ k) (cdv : Value) (A0 : Around) (outer : List PySem.Env) (s : Shared) (H : Hp) (E : XK) (hr : Room k (A0.deeper (envOfC "evaluate" (defScope s_evaluate) s.heap.objs.size A.a_evaluate cdv))) :
    QSs (cxOf (L2.CX P w) P w K mg base N_evaluate "evaluate" (defScope s_evaluate) A.a_evaluate cdv A0 outer s H E) (fun c od _ H => E c od H) (defBody s_evaluate) (w_evaluate A p_evaluate p_operated) := by
  have nd := sc_evaluate.nd
  have tk : Takes (cxOf (L2.CX P w) P w K mg base N_evaluate "evaluate" (defScope s_evaluate) A.a_evaluate cdv A0 outer s H E) (fun c od _ H => E c od H) := takes_of rfl rfl rfl rfl
  exact (qss_cons (qs_if (qt_cmp (op_eqD (hu64 hr)) o2_eq (qe_ix (qe_var 0) qe_int) qe_str (nomark _)) (qss_one (qs_ret (qe_ix (qe_var 0) qe_int))) qss_nil)
    (qss_cons (qs_if (qt_cmp (op_eqD (hu64 hr)) o2_eq (qe_ix (qe_var 0) qe_int) qe_str (nomark _)) (qss_one (qs_ret (qe_dget2 (hu65 hr) (qe_var 1) (qe_ix (qe_var 0) qe_int) qe_int))) qss_nil)
    (qss_cons (qs_set 2 nd (qe_call tk G_evaluate (hr.mono h_evaluate) rfl T.m_evaluate T.f_evaluate.kp T.b_evaluate (qa_cons (qe_ix (qe_var 0) qe_int) (qa_cons (qe_var 1) qa_nil))))
    (qss_cons (qs_if (qt_cmp op_isN' o2_isN (qe_var 2) qe_non (nomark _)) (qss_one (qs_ret qe_non)) qss_nil)
    (qss_cons (qs_set 3 nd (qe_call tk G_evaluate (hr.mono h_evaluate) rfl T.m_evaluate T.f_evaluate.kp T.b_evaluate (qa_cons (qe_ix (qe_var 0) qe_int) (qa_cons (qe_var 1) qa_nil))))
    (qss_cons (qs_if (qt_cmp op_isN' o2_isN (qe_var 3) qe_non (nomark _)) (qss_one (qs_ret qe_non)) qss_nil)
    (qss_one (qs_ret (qe_call tk G_operated (hr.mono h_operated) rfl T.m_operated T.f_operated.kp T.b_operated (qa_cons (qe_ix (qe_var 0) qe_int) (qa_cons (qe_var 2) (qa_cons (qe_var 3) qa_nil))))))))))))
abbrev N_law_cell : List Str := ["_law_script", "_law_k"]
theorem sc_law_cell : FnScope N_law_cell ["_law_script", "_law_k"] (defScope s_law_cell) := ⟨rfl, rfl, rfl, by decide +kernel, rfl, by decide +kernel, by decide +kernel⟩
def w_law_cell (A : Ads) : DS :=
    (wSeq (wIfS (wTst (wOp ltD (wVar 1) (wApp lenD (wCons (wVar 0) wNil)))) (wRet (wApp intOf (wCons (wOp ixD (wVar 0) (wVar 1)) wNil))) wNext)
    (wRet (wC (.int 0))))
theorem der_law_cell (T : Txt w K mg A) {k : Nat} (cdv : Value) (A0 : Around) (outer : List PySem.Env) (s : Shared) (H : Hp) (E : XK) (hr : Room k (A0.deeper (envOfC "_law_cell" (defScope s_law_cell) s.heap.objs.size A.a_law_cell cdv))) :
    QSs (cxOf (L2.CX P w) P w K mg base N_law_cell "_law_cell" (defScope s_law_cell) A.a_law_cell cdv A0 outer s H E) (fun c od _ H => E c od H) (defBody s_law_cell) (w_law_cell A) := by
  have nd := sc_law_cell.nd
  have tk : Takes (cxOf (L2.CX P w) P w K mg base N_law_cell "_law_cell" (defScope s_law_cell) A.a_law_cell cdv A0 outer s H E) (fun c od _ H => E c od H) := takes_of rfl rfl rfl rfl
  exact (qss_cons (qs_if (qt_cmp op_lt o2_lt (qe_var 1) (qe_len rfl T.z_len (qe_var 0)) (nomark _)) (qss_one (qs_ret (qe_callTy call_intAll ol_int rfl T.z_int (show bootBuiltins "int" = some (.type "int") by decide +kernel) (qa_cons (qe_ix (qe_var 0) (qe_var 1)) qa_nil)))) qss_nil)
    (qss_one (qs_ret qe_int)))
abbrev N_law_draws : List Str := ["_law_cell_here", "_law_count", "_law_number_here", "_law_great", "_law_found", "_law_k", "_law_mixed"]
theorem sc_law_draws : FnScope N_law_draws ["_law_cell_here", "_law_count"] (defScope s_law_draws) := ⟨rfl, rfl, rfl, by decide +kernel, rfl, by decide +kernel, by decide +kernel⟩
def w_law_draws (A : Ads) : DS :=
    (wSeq (wAsg (wApp absD (wCons (wApp intOf (wCons (wVar 0) wNil)) wNil)) (gN 2))
    (wSeq (wAsg (wOp geD (wVar 2) (wOp powD (wC (.int 10)) (wC (.int 18)))) (gN 3))
    (wSeq (wAsg (wLst wNil) (gN 4))
    (wSeq (wFor (wRng1 (wCons (wC (.int 60)) wNil)) (gN 5) (wIfS (wAnd (wTst (wOp ltD (wVar 5) (wVar 1))) (wTru (wVar 3))) (wSeq (wEx (wBM "list" appendD (wVar 4) (wCons (wOp modD (wVar 2) (wC (.int 60))) wNil)))
    (wAsg (wOp divD (wVar 2) (wC (.int 60))) (gN 2))) (wIfS (wTst (wOp ltD (wVar 5) (wVar 1))) (wSeq (wAsg (wOp modD (wOp addD (wOp addD (wOp mulD (wApp intOf (wCons (wVar 2) wNil)) (wC (.int 48271))) (wOp mulD (wVar 5) (wC (.int 69621)))) (wC (.int 11))) (wC (.int 2147483647))) (gN 6))
    (wSeq (wAsg (wOp modD (wOp addD (wOp addD (wOp mulD (wApp intOf (wCons (wVar 6) wNil)) (wApp intOf (wCons (wVar 6) wNil))) (wOp mulD (wVar 5) (wC (.int 7919)))) (wC (.int 5))) (wC (.int 998244353))) (gN 6))
    (wEx (wBM "list" appendD (wVar 4) (wCons (wOp modD (wApp intOf (wCons (wVar 6) wNil)) (wC (.int 60))) wNil))))) wNext)))
    (wRet (wVar 4))))))
theorem der_law_draws (T : Txt w K mg A) {k : Nat} (cdv : Value) (A0 : Around) (outer : List PySem.Env) (s : Shared) (H : Hp) (E : XK) (hr : Room k (A0.deeper (envOfC "_law_draws" (defScope s_law_draws) s.heap.objs.size A.a_law_draws cdv))) :
    QSs (cxOf (L2.CX P w) P w K mg base N_law_draws "_law_draws" (defScope s_law_draws) A.a_law_draws cdv A0 outer s H E) (fun c od _ H => E c od H) (defBody s_law_draws) (w_law_draws A) := by
  have nd := sc_law_draws.nd
  have tk : Takes (cxOf (L2.CX P w) P w K mg base N_law_draws "_law_draws" (defScope s_law_draws) A.a_law_draws cdv A0 outer s H E) (fun c od _ H => E c od H) := takes_of rfl rfl rfl rfl
  exact (qss_cons (qs_set 2 nd (qe_callB call_abs ol_abs rfl T.z_abs (show bootBuiltins "abs" = some (.builtin "abs") by decide +kernel) (qa_cons (qe_callTy call_intAll ol_int rfl T.z_int (show bootBuiltins "int" = some (.type "int") by decide +kernel) (qa_cons (qe_var 0) qa_nil)) qa_nil)))
    (qss_cons (qs_set 3 nd (qe_cmp op_ge o2_ge (qe_var 2) (qe_pow qe_int qe_int) (nomark _)))
    (qss_cons (qs_set 4 nd (qe_lst qa_nil))
    (qss_cons (qs_for [5] (passes_of rfl) rfl (qi_rng1 rfl T.z_range qe_int) (qg_name 5 nd) (qss_one (qs_if (qt_bool (qw_and (qt_cmp op_lt o2_lt (qe_var 5) (qe_var 1) (nomark _)) (qw_and1 (qt_tru (qe_var 3))))) (qss_cons (qs_expr (qe_append (qe_var 4) (qe_mod (qe_var 2) qe_int)))
    (qss_one (qs_set 2 nd (qe_div (qe_var 2) qe_int)))) (qss_one (qs_if (qt_cmp op_lt o2_lt (qe_var 5) (qe_var 1) (nomark _)) (qss_cons (qs_set 6 nd (qe_mod (qe_add (qe_add (qe_mul (qe_callTy call_intAll ol_int rfl T.z_int (show bootBuiltins "int" = some (.type "int") by decide +kernel) (qa_cons (qe_var 2) qa_nil)) qe_int) (qe_mul (qe_var 5) qe_int)) qe_int) qe_int))
    (qss_cons (qs_set 6 nd (qe_mod (qe_add (qe_add (qe_mul (qe_callTy call_intAll ol_int rfl T.z_int (show bootBuiltins "int" = some (.type "int") by decide +kernel) (qa_cons (qe_var 6) qa_nil)) (qe_callTy call_intAll ol_int rfl T.z_int (show bootBuiltins "int" = some (.type "int") by decide +kernel) (qa_cons (qe_var 6) qa_nil))) (qe_mul (qe_var 5) qe_int)) qe_int) qe_int))
    (qss_one (qs_expr (qe_append (qe_var 4) (qe_mod (qe_callTy call_intAll ol_int rfl T.z_int (show bootBuiltins "int" = some (.type "int") by decide +kernel) (qa_cons (qe_var 6) qa_nil)) qe_int)))))) qss_nil)))))
    (qss_one (qs_ret (qe_var 4)))))))
abbrev N_law_stream : List Str := ["_law_script", "_law_first", "_law_count", "_law_found", "_law_k"]
theorem sc_law_stream : FnScope N_law_stream ["_law_script", "_law_first", "_law_count"] (defScope s_law_stream) := ⟨rfl, rfl, rfl, by decide +kernel, rfl, by decide +kernel, by decide +kernel⟩
def w_law_stream (A : Ads) (p_law_draws : SpD) (p_law_cell : SpD) : DS :=
    (wSeq (wAsg (wLst wNil) (gN 3))
    (wSeq (wFor (wRng1 (wCons (wVar 2) wNil)) (gN 4) (wEx (wBM "list" extendD (wVar 3) (wCons (wCall p_law_draws (wCons (wCall p_law_cell (wCons (wVar 0) (wCons (wOp addD (wVar 1) (wVar 4)) wNil))) (wCons (wC (.int 12)) wNil))) wNil))))
    (wRet (wLst (wCons (wVar 3) (wCons (wLst (wCons (wC (.int 0)) wNil)) wNil))))))
theorem der_law_stream (T : Txt w K mg A) {k : Nat} {k_law_draws : Nat} {p_law_draws : SpD} (G_law_draws : FnD P w K mg base k_law_draws A.a_law_draws A.d_law_draws ["_law_cell_here", "_law_count"] p_law_draws) (h_law_draws : k_law_draws ≤ k) {k_law_cell : Nat} {p_law_cell : SpD} (G_law_cell : FnD P w K mg base k_law_cell A.a_law_cell A.d_law_cell ["_law_script", "_law_k"] p_law_cell) (h_law_cell : k_law_cell ≤ k) (cdv : Value) (A0 : Around) (outer : List PySem.Env) (s : Shared) (H : Hp) (E : XK) (hr : Room k (A0.deeper (envOfC "_law_stream" (defScope s_law_stream) s.heap.objs.size A.a_law_stream cdv))) :
    QSs (cxOf (L2.CX P w) P w K mg base N_law_stream "_law_stream" (defScope s_law_stream) A.a_law_stream cdv A0 outer s H E) (fun c od _ H => E c od H) (defBody s_law_stream) (w_law_stream A p_law_draws p_law_cell) := by
  have nd := sc_law_stream.nd
  have tk : Takes (cxOf (L2.CX P w) P w K mg base N_law_stream "_law_stream" (defScope s_law_stream) A.a_law_stream cdv A0 outer s H E) (fun c od _ H => E c od H) := takes_of rfl rfl rfl rfl
  exact (qss_cons (qs_set 3 nd (qe_lst qa_nil))
    (qss_cons (qs_for [4] (passes_of rfl) rfl (qi_rng1 rfl T.z_range (qe_var 2)) (qg_name 4 nd) (qss_one (qs_expr (qe_extend (qe_var 3) (qe_call tk G_law_draws (hr.mono h_law_draws) rfl T.m_law_draws T.f_law_draws.kp T.b_law_draws (qa_cons (qe_call tk G_law_cell (hr.mono h_law_cell) rfl T.m_law_cell T.f_law_cell.kp T.b_law_cell (qa_cons (qe_var 0) (qa_cons (qe_add (qe_var 1) (qe_var 4)) qa_nil))) (qa_cons qe_int qa_nil)))))))
    (qss_one (qs_ret (qe_lst (qa_cons (qe_var 3) (qa_cons (qe_lst (qa_cons qe_int qa_nil)) qa_nil)))))))
abbrev N_law_next : List Str := ["_law_stream_here", "_law_many", "_law_digits", "_law_place", "_law_value_here"]
theorem sc_law_next : FnScope N_law_next ["_law_stream_here", "_law_many"] (defScope s_law_next) := ⟨rfl, rfl, rfl, by decide +kernel, rfl, by decide +kernel, by decide +kernel⟩
def w_law_next (A : Ads) : DS :=
    (wSeq (wAsg (wOp ixD (wVar 0) (wC (.int 0))) (gN 2))
    (wSeq (wAsg (wOp ixD (wVar 0) (wC (.int 1))) (gN 3))
    (wSeq (wAsg (wOp modD (wApp intOf (wCons (wOp ixD (wVar 2) (wOp modD (wApp intOf (wCons (wOp ixD (wVar 3) (wC (.int 0))) wNil)) (wApp lenD (wCons (wVar 2) wNil)))) wNil)) (wVar 1)) (gN 4))
    (wSeq (wSetL (wVar 3) (wC (.int 0)) (wOp addD (wOp ixD (wVar 3) (wC (.int 0))) (wC (.int 1))))
    (wRet (wVar 4))))))
theorem der_law_next (T : Txt w K mg A) {k : Nat} (cdv : Value) (A0 : Around) (outer : List PySem.Env) (s : Shared) (H : Hp) (E : XK) (hr : Room k (A0.deeper (envOfC "_law_next" (defScope s_law_next) s.heap.objs.size A.a_law_next cdv))) :
    QSs (cxOf (L2.CX P w) P w K mg base N_law_next "_law_next" (defScope s_law_next) A.a_law_next cdv A0 outer s H E) (fun c od _ H => E c od H) (defBody s_law_next) (w_law_next A) := by
  have nd := sc_law_next.nd
  have tk : Takes (cxOf (L2.CX P w) P w K mg base N_law_next "_law_next" (defScope s_law_next) A.a_law_next cdv A0 outer s H E) (fun c od _ H => E c od H) := takes_of rfl rfl rfl rfl
  exact (qss_cons (qs_set 2 nd (qe_ix (qe_var 0) qe_int))
    (qss_cons (qs_set 3 nd (qe_ix (qe_var 0) qe_int))
    (qss_cons (qs_set 4 nd (qe_mod (qe_callTy call_intAll ol_int rfl T.z_int (show bootBuiltins "int" = some (.type "int") by decide +kernel) (qa_cons (qe_ix (qe_var 2) (qe_mod (qe_callTy call_intAll ol_int rfl T.z_int (show bootBuiltins "int" = some (.type "int") by decide +kernel) (qa_cons (qe_ix (qe_var 3) qe_int) qa_nil)) (qe_len rfl T.z_len (qe_var 2)))) qa_nil)) (qe_var 1)))
    (qss_cons (qs_setL (qe_var 3) qe_int (qe_add (qe_ix (qe_var 3) qe_int) qe_int))
    (qss_one (qs_ret (qe_var 4)))))))
abbrev N_law_variable : List Str := ["_law_stream_here"]
theorem sc_law_variable : FnScope N_law_variable ["_law_stream_here"] (defScope s_law_variable) := ⟨rfl, rfl, rfl, by decide +kernel, rfl, by decide +kernel, by decide +kernel⟩
def w_law_variable (A : Ads) (p_law_next : SpD) : DS :=
    (wRet (wOp ixD (wLst (wCons (wC (.str (tx "n"))) (wCons (wC (.str (tx "i"))) (wCons (wC (.str (tx "x"))) (wCons (wC (.str (tx "total"))) (wCons (wC (.str (tx "q"))) wNil)))))) (wCall p_law_next (wCons (wVar 0) (wCons (wC (.int 5)) wNil)))))
theorem der_law_variable (T : Txt w K mg A) {k : Nat} {k_law_next : Nat} {p_law_next : SpD} (G_law_next : FnD P w K mg base k_law_next A.a_law_next A.d_law_next ["_law_stream_here", "_law_many"] p_law_next) (h_law_next : k_law_next ≤ k) (cdv : Value) (A0 : Around) (outer : List PySem.Env) (s : Shared) (H : Hp) (E : XK) (hr : Room k (A0.deeper (envOfC "_law_variable" (defScope s_law_variable) s.heap.objs.size A.a_law_variable cdv))) :
    QSs (cxOf (L2.CX P w) P w K mg base N_law_variable "_law_variable" (defScope s_law_variable) A.a_law_variable cdv A0 outer s H E) (fun c od _ H => E c od H) (defBody s_law_variable) (w_law_variable A p_law_next) := by
  have nd := sc_law_variable.nd
  have tk : Takes (cxOf (L2.CX P w) P w K mg base N_law_variable "_law_variable" (defScope s_law_variable) A.a_law_variable cdv A0 outer s H E) (fun c od _ H => E c od H) := takes_of rfl rfl rfl rfl
  exact (qss_one (qs_ret (qe_ix (qe_lst (qa_cons qe_str (qa_cons qe_str (qa_cons qe_str (qa_cons qe_str (qa_cons qe_str qa_nil)))))) (qe_call tk G_law_next (hr.mono h_law_next) rfl T.m_law_next T.f_law_next.kp T.b_law_next (qa_cons (qe_var 0) (qa_cons qe_int qa_nil))))))
abbrev N_law_number : List Str := ["_law_stream_here", "_law_kind"]
theorem sc_law_number : FnScope N_law_number ["_law_stream_here"] (defScope s_law_number) := ⟨rfl, rfl, rfl, by decide +kernel, rfl, by decide +kernel, by decide +kernel⟩
def w_law_number (A : Ads) (p_law_next : SpD) : DS :=
    (wSeq (wAsg (wCall p_law_next (wCons (wVar 0) (wCons (wC (.int 4)) wNil))) (gN 1))
    (wSeq (wIfS (wTst (wOp eqD (wVar 1) (wC (.int 0)))) (wRet (wOp subD (wC (.int 1000000)) (wOp mulD (wCall p_law_next (wCons (wVar 0) (wCons (wC (.int 60)) wNil))) (wOp ixD (wLst (wCons (wC (.int 1)) (wCons (wC (.int 16949)) wNil))) (wCall p_law_next (wCons (wVar 0) (wCons (wC (.int 2)) wNil))))))) wNext)
    (wSeq (wIfS (wTst (wOp eqD (wVar 1) (wC (.int 1)))) (wRet (wOp addD (wOp mulD (wCall p_law_next (wCons (wVar 0) (wCons (wC (.int 60)) wNil))) (wC (.int 60))) (wCall p_law_next (wCons (wVar 0) (wCons (wC (.int 60)) wNil))))) wNext)
    (wRet (wCall p_law_next (wCons (wVar 0) (wCons (wC (.int 10)) wNil)))))))
theorem der_law_number (T : Txt w K mg A) {k : Nat} {k_law_next : Nat} {p_law_next : SpD} (G_law_next : FnD P w K mg base k_law_next A.a_law_next A.d_law_next ["_law_stream_here", "_law_many"] p_law_next) (h_law_next : k_law_next ≤ k) (cdv : Value) (A0 : Around) (outer : List PySem.Env) (s : Shared) (H : Hp) (E : XK) (hr : Room k (A0.deeper (envOfC "_law_number" (defScope s_law_number) s.heap.objs.size A.a_law_number cdv))) :
    QSs (cxOf (L2.CX P w) P w K mg base N_law_number "_law_number" (defScope s_law_number) A.a_law_number cdv A0 outer s H E) (fun c od _ H => E c od H) (defBody s_law_number) (w_law_number A p_law_next) := by
  have nd := sc_law_number.nd
  have tk : Takes (cxOf (L2.CX P w) P w K mg base N_law_number "_law_number" (defScope s_law_number) A.a_law_number cdv A0 outer s H E) (fun c od _ H => E c od H) := takes_of rfl rfl rfl rfl
  exact (qss_cons (qs_set 1 nd (qe_call tk G_law_next (hr.mono h_law_next) rfl T.m_law_next T.f_law_next.kp T.b_law_next (qa_cons (qe_var 0) (qa_cons qe_int qa_nil))))
    (qss_cons (qs_if (qt_cmp (op_eqD (hu64 hr)) o2_eq (qe_var 1) qe_int (nomark _)) (qss_one (qs_ret (qe_sub qe_int (qe_mul (qe_call tk G_law_next (hr.mono h_law_next) rfl T.m_law_next T.f_law_next.kp T.b_law_next (qa_cons (qe_var 0) (qa_cons qe_int qa_nil))) (qe_ix (qe_lst (qa_cons qe_int (qa_cons qe_int qa_nil))) (qe_call tk G_law_next (hr.mono h_law_next) rfl T.m_law_next T.f_law_next.kp T.b_law_next (qa_cons (qe_var 0) (qa_cons qe_int qa_nil)))))))) qss_nil)
    (qss_cons (qs_if (qt_cmp (op_eqD (hu64 hr)) o2_eq (qe_var 1) qe_int (nomark _)) (qss_one (qs_ret (qe_add (qe_mul (qe_call tk G_law_next (hr.mono h_law_next) rfl T.m_law_next T.f_law_next.kp T.b_law_next (qa_cons (qe_var 0) (qa_cons qe_int qa_nil))) qe_int) (qe_call tk G_law_next (hr.mono h_law_next) rfl T.m_law_next T.f_law_next.kp T.b_law_next (qa_cons (qe_var 0) (qa_cons qe_int qa_nil)))))) qss_nil)
    (qss_one (qs_ret (qe_call tk G_law_next (hr.mono h_law_next) rfl T.m_law_next T.f_law_next.kp T.b_law_next (qa_cons (qe_var 0) (qa_cons qe_int qa_nil))))))))
abbrev N_law_expression : List Str := ["_law_stream_here", "_law_depth", "_law_kind", "_law_sign"]
theorem sc_law_expression : FnScope N_law_expression ["_law_stream_here", "_law_depth"] (defScope s_law_expression) := ⟨rfl, rfl, rfl, by decide +kernel, rfl, by decide +kernel, by decide +kernel⟩
def w_law_expression (A : Ads) (p_law_next : SpD) (p_law_number : SpD) (p_law_variable : SpD) (p_law_expression : SpD) : DS :=
    (wSeq (wAsg (wCall p_law_next (wCons (wVar 0) (wCons (wC (.int 8)) wNil))) (gN 2))
    (wSeq (wIfS (wOr (wTst (wOp eqD (wVar 1) (wC (.int 0)))) (wTst (wOp leD (wVar 2) (wC (.int 1))))) (wRet (wTup (wCons (wC (.str (tx "number"))) (wCons (wCall p_law_number (wCons (wVar 0) wNil)) wNil)))) wNext)
    (wSeq (wIfS (wTst (wOp leD (wVar 2) (wC (.int 3)))) (wRet (wTup (wCons (wC (.str (tx "variable"))) (wCons (wCall p_law_variable (wCons (wVar 0) wNil)) wNil)))) wNext)
    (wSeq (wAsg (wOp ixD (wLst (wCons (wC (.str (tx "="))) (wCons (wC (.str (tx "<"))) (wCons (wC (.str (tx "+"))) (wCons (wC (.str (tx "-"))) (wCons (wC (.str (tx "*"))) (wCons (wC (.str (tx "+"))) (wCons (wC (.str (tx "-"))) wNil)))))))) (wCall p_law_next (wCons (wVar 0) (wCons (wC (.int 7)) wNil)))) (gN 3))
    (wRet (wTup (wCons (wVar 3) (wCons (wCall p_law_expression (wCons (wVar 0) (wCons (wOp subD (wVar 1) (wC (.int 1))) wNil))) (wCons (wCall p_law_expression (wCons (wVar 0) (wCons (wOp subD (wVar 1) (wC (.int 1))) wNil))) wNil)))))))))
theorem der_law_expression (T : Txt w K mg A) {k : Nat} {k_law_next : Nat} {p_law_next : SpD} (G_law_next : FnD P w K mg base k_law_next A.a_law_next A.d_law_next ["_law_stream_here", "_law_many"] p_law_next) (h_law_next : k_law_next ≤ k) {k_law_number : Nat} {p_law_number : SpD} (G_law_number : FnD P w K mg base k_law_number A.a_law_number A.d_law_number ["_law_stream_here"] p_law_number) (h_law_number : k_law_number ≤ k) {k_law_variable : Nat} {p_law_variable : SpD} (G_law_variable : FnD P w K mg base k_law_variable A.a_law_variable A.d_law_variable ["_law_stream_here"] p_law_variable) (h_law_variable : k_law_variable ≤ k) {k_law_expression : Nat} {p_law_expression : SpD} (G_law_expression : FnD P w K mg base k_law_expression A.a_law_expression A.d_law_expression ["_law_stream_here", "_law_depth"] p_law_expression) (h_law_expression : k_law_expression ≤ k) (cdv : Value) (A0 : Around) (outer : List PySem.Env) (s : Shared) (H : Hp) (E : XK) (hr : Room k (A0.deeper (envOfC "_law_expression" (defScope s_law_expression) s.heap.objs.size A.a_law_expression cdv))) :
    QSs (cxOf (L2.CX P w) P w K mg base N_law_expression "_law_expression" (defScope s_law_expression) A.a_law_expression cdv A0 outer s H E) (fun c od _ H => E c od H) (defBody s_law_expression) (w_law_expression A p_law_next p_law_number p_law_variable p_law_expression) := by
  have nd := sc_law_expression.nd
  have tk : Takes (cxOf (L2.CX P w) P w K mg base N_law_expression "_law_expression" (defScope s_law_expression) A.a_law_expression cdv A0 outer s H E) (fun c od _ H => E c od H) := takes_of rfl rfl rfl rfl
  exact (qss_cons (qs_set 2 nd (qe_call tk G_law_next (hr.mono h_law_next) rfl T.m_law_next T.f_law_next.kp T.b_law_next (qa_cons (qe_var 0) (qa_cons qe_int qa_nil))))
    (qss_cons (qs_if (qt_bool (qw_or (qt_cmp (op_eqD (hu64 hr)) o2_eq (qe_var 1) qe_int (nomark _)) (qw_or1 (qt_cmp op_le o2_le (qe_var 2) qe_int (nomark _))))) (qss_one (qs_ret (qe_tup (qa_cons qe_str (qa_cons (qe_call tk G_law_number (hr.mono h_law_number) rfl T.m_law_number T.f_law_number.kp T.b_law_number (qa_cons (qe_var 0) qa_nil)) qa_nil))))) qss_nil)
    (qss_cons (qs_if (qt_cmp op_le o2_le (qe_var 2) qe_int (nomark _)) (qss_one (qs_ret (qe_tup (qa_cons qe_str (qa_cons (qe_call tk G_law_variable (hr.mono h_law_variable) rfl T.m_law_variable T.f_law_variable.kp T.b_law_variable (qa_cons (qe_var 0) qa_nil)) qa_nil))))) qss_nil)
    (qss_cons (qs_set 3 nd (qe_ix (qe_lst (qa_cons qe_str (qa_cons qe_str (qa_cons qe_str (qa_cons qe_str (qa_cons qe_str (qa_cons qe_str (qa_cons qe_str qa_nil)))))))) (qe_call tk G_law_next (hr.mono h_law_next) rfl T.m_law_next T.f_law_next.kp T.b_law_next (qa_cons (qe_var 0) (qa_cons qe_int qa_nil)))))
    (qss_one (qs_ret (qe_tup (qa_cons (qe_var 3) (qa_cons (qe_call tk G_law_expression (hr.mono h_law_expression) rfl T.m_law_expression T.f_law_expression.kp T.b_law_expression (qa_cons (qe_var 0) (qa_cons (qe_sub (qe_var 1) qe_int) qa_nil))) (qa_cons (qe_call tk G_law_expression (hr.mono h_law_expression) rfl T.m_law_expression T.f_law_expression.kp T.b_law_expression (qa_cons (qe_var 0) (qa_cons (qe_sub (qe_var 1) qe_int) qa_nil))) qa_nil))))))))))
abbrev N_law_is_integer : List Str := ["_law_actual"]
theorem sc_law_is_integer : FnScope N_law_is_integer ["_law_actual"] (defScope s_law_is_integer) := ⟨rfl, rfl, rfl, by decide +kernel, rfl, by decide +kernel, by decide +kernel⟩
def w_law_is_integer (A : Ads) : DS :=
    (wRet (wAndV (wApp isiD (wCons (wVar 0) (wCons (wC (.ty "int")) wNil))) (wNotV (wApp isiD (wCons (wVar 0) (wCons (wC (.ty "bool")) wNil))))))
theorem der_law_is_integer (T : Txt w K mg A) {k : Nat} (cdv : Value) (A0 : Around) (outer : List PySem.Env) (s : Shared) (H : Hp) (E : XK) (hr : Room k (A0.deeper (envOfC "_law_is_integer" (defScope s_law_is_integer) s.heap.objs.size A.a_law_is_integer cdv))) :
    QSs (cxOf (L2.CX P w) P w K mg base N_law_is_integer "_law_is_integer" (defScope s_law_is_integer) A.a_law_is_integer cdv A0 outer s H E) (fun c od _ H => E c od H) (defBody s_law_is_integer) (w_law_is_integer A) := by
  have nd := sc_law_is_integer.nd
  have tk : Takes (cxOf (L2.CX P w) P w K mg base N_law_is_integer "_law_is_integer" (defScope s_law_is_integer) A.a_law_is_integer cdv A0 outer s H E) (fun c od _ H => E c od H) := takes_of rfl rfl rfl rfl
  exact (qss_one (qs_ret (qe_and (qe_callB call_isi ol_isi rfl T.z_isinstance (show bootBuiltins "isinstance" = some (.builtin "isinstance") by decide +kernel) (qa_cons (qe_var 0) (qa_cons (qe_bty (n := "int") rfl T.z_int) qa_nil))) (qe_one (qe_not (qe_callB call_isi ol_isi rfl T.z_isinstance (show bootBuiltins "isinstance" = some (.builtin "isinstance") by decide +kernel) (qa_cons (qe_var 0) (qa_cons (qe_bty (n := "bool") rfl T.z_bool) qa_nil))))))))
abbrev N_law_same : List Str := ["_law_actual", "_law_expected", "_law_k"]
theorem sc_law_same : FnScope N_law_same ["_law_actual", "_law_expected"] (defScope s_law_same) := ⟨rfl, rfl, rfl, by decide +kernel, rfl, by decide +kernel, by decide +kernel⟩
def w_law_same (A : Ads) (p_law_is_integer : SpD) (p_law_same : SpD) : DS :=
    (wSeq (wIfS (wTst (wOp (isND false) (wVar 1) (wC .non))) (wRet (wOp (isND false) (wVar 0) (wC .non))) wNext)
    (wSeq (wIfS (wTru (wApp isiD (wCons (wVar 1) (wCons (wC (.ty "bool")) wNil)))) (wRet (wAndV (wApp isiD (wCons (wVar 0) (wCons (wC (.ty "bool")) wNil))) (wOp eqD (wVar 0) (wVar 1)))) wNext)
    (wSeq (wIfS (wTru (wApp isiD (wCons (wVar 1) (wCons (wC (.ty "int")) wNil)))) (wRet (wAndV (wCall p_law_is_integer (wCons (wVar 0) wNil)) (wOp eqD (wVar 0) (wVar 1)))) wNext)
    (wSeq (wIfS (wTru (wApp isiD (wCons (wVar 1) (wCons (wC (.ty "str")) wNil)))) (wRet (wAndV (wApp isiD (wCons (wVar 0) (wCons (wC (.ty "str")) wNil))) (wOp eqD (wVar 0) (wVar 1)))) wNext)
    (wSeq (wIfS (wAnd (wTru (wApp isiD (wCons (wVar 1) (wCons (wC (.ty "tuple")) wNil)))) (wNot (wTru (wApp isiD (wCons (wVar 0) (wCons (wC (.ty "tuple")) wNil)))))) (wRet (wC (.bl false))) wNext)
    (wSeq (wIfS (wAnd (wTru (wApp isiD (wCons (wVar 1) (wCons (wC (.ty "list")) wNil)))) (wNot (wTru (wApp isiD (wCons (wVar 0) (wCons (wC (.ty "list")) wNil)))))) (wRet (wC (.bl false))) wNext)
    (wSeq (wIfS (wTst (wOp neD (wApp lenD (wCons (wVar 0) wNil)) (wApp lenD (wCons (wVar 1) wNil)))) (wRet (wC (.bl false))) wNext)
    (wSeq (wFor (wRng1 (wCons (wApp lenD (wCons (wVar 1) wNil)) wNil)) (gN 2) (wIfS (wNot (wTru (wCall p_law_same (wCons (wOp ixD (wVar 0) (wVar 2)) (wCons (wOp ixD (wVar 1) (wVar 2)) wNil))))) (wRet (wC (.bl false))) wNext))
    (wRet (wC (.bl true)))))))))))
theorem der_law_same (T : Txt w K mg A) {k : Nat} {k_law_is_integer : Nat} {p_law_is_integer : SpD} (G_law_is_integer : FnD P w K mg base k_law_is_integer A.a_law_is_integer A.d_law_is_integer ["_law_actual"] p_law_is_integer) (h_law_is_integer : k_law_is_integer ≤ k) {k_law_same : Nat} {p_law_same : SpD} (G_law_same : FnD P w K mg base k_law_same A.a_law_same A.d_law_same ["_law_actual", "_law_expected"] p_law_same) (h_law_same : k_law_same ≤ k) (cdv : Value) (A0 : Around) (outer : List PySem.Env) (s : Shared) (H : Hp) (E : XK) (hr : Room k (A0.deeper (envOfC "_law_same" (defScope s_law_same) s.heap.objs.size A.a_law_same cdv))) :
    QSs (cxOf (L2.CX P w) P w K mg base N_law_same "_law_same" (defScope s_law_same) A.a_law_same cdv A0 outer s H E) (fun c od _ H => E c od H) (defBody s_law_same) (w_law_same A p_law_is_integer p_law_same) := by
  have nd := sc_law_same.nd
  have tk : Takes (cxOf (L2.CX P w) P w K mg base N_law_same "_law_same" (defScope s_law_same) A.a_law_same cdv A0 outer s H E) (fun c od _ H => E c od H) := takes_of rfl rfl rfl rfl
  exact (qss_cons (qs_if (qt_cmp op_isN' o2_isN (qe_var 1) qe_non (nomark _)) (qss_one (qs_ret (qe_cmp op_isN' o2_isN (qe_var 0) qe_non (nomark _)))) qss_nil)
    (qss_cons (qs_if (qt_tru (qe_callB call_isi ol_isi rfl T.z_isinstance (show bootBuiltins "isinstance" = some (.builtin "isinstance") by decide +kernel) (qa_cons (qe_var 1) (qa_cons (qe_bty (n := "bool") rfl T.z_bool) qa_nil)))) (qss_one (qs_ret (qe_and (qe_callB call_isi ol_isi rfl T.z_isinstance (show bootBuiltins "isinstance" = some (.builtin "isinstance") by decide +kernel) (qa_cons (qe_var 0) (qa_cons (qe_bty (n := "bool") rfl T.z_bool) qa_nil))) (qe_one (qe_cmp (op_eqD (hu64 hr)) o2_eq (qe_var 0) (qe_var 1) (nomark _)))))) qss_nil)
    (qss_cons (qs_if (qt_tru (qe_callB call_isi ol_isi rfl T.z_isinstance (show bootBuiltins "isinstance" = some (.builtin "isinstance") by decide +kernel) (qa_cons (qe_var 1) (qa_cons (qe_bty (n := "int") rfl T.z_int) qa_nil)))) (qss_one (qs_ret (qe_and (qe_call tk G_law_is_integer (hr.mono h_law_is_integer) rfl T.m_law_is_integer T.f_law_is_integer.kp T.b_law_is_integer (qa_cons (qe_var 0) qa_nil)) (qe_one (qe_cmp (op_eqD (hu64 hr)) o2_eq (qe_var 0) (qe_var 1) (nomark _)))))) qss_nil)
    (qss_cons (qs_if (qt_tru (qe_callB call_isi ol_isi rfl T.z_isinstance (show bootBuiltins "isinstance" = some (.builtin "isinstance") by decide +kernel) (qa_cons (qe_var 1) (qa_cons (qe_bty (n := "str") rfl T.z_str) qa_nil)))) (qss_one (qs_ret (qe_and (qe_callB call_isi ol_isi rfl T.z_isinstance (show bootBuiltins "isinstance" = some (.builtin "isinstance") by decide +kernel) (qa_cons (qe_var 0) (qa_cons (qe_bty (n := "str") rfl T.z_str) qa_nil))) (qe_one (qe_cmp (op_eqD (hu64 hr)) o2_eq (qe_var 0) (qe_var 1) (nomark _)))))) qss_nil)
    (qss_cons (qs_if (qt_bool (qw_and (qt_tru (qe_callB call_isi ol_isi rfl T.z_isinstance (show bootBuiltins "isinstance" = some (.builtin "isinstance") by decide +kernel) (qa_cons (qe_var 1) (qa_cons (qe_bty (n := "tuple") rfl T.z_tuple) qa_nil)))) (qw_and1 (qt_not (qt_tru (qe_callB call_isi ol_isi rfl T.z_isinstance (show bootBuiltins "isinstance" = some (.builtin "isinstance") by decide +kernel) (qa_cons (qe_var 0) (qa_cons (qe_bty (n := "tuple") rfl T.z_tuple) qa_nil)))))))) (qss_one (qs_ret qe_bl)) qss_nil)
    (qss_cons (qs_if (qt_bool (qw_and (qt_tru (qe_callB call_isi ol_isi rfl T.z_isinstance (show bootBuiltins "isinstance" = some (.builtin "isinstance") by decide +kernel) (qa_cons (qe_var 1) (qa_cons (qe_bty (n := "list") rfl T.z_list) qa_nil)))) (qw_and1 (qt_not (qt_tru (qe_callB call_isi ol_isi rfl T.z_isinstance (show bootBuiltins "isinstance" = some (.builtin "isinstance") by decide +kernel) (qa_cons (qe_var 0) (qa_cons (qe_bty (n := "list") rfl T.z_list) qa_nil)))))))) (qss_one (qs_ret qe_bl)) qss_nil)
    (qss_cons (qs_if (qt_cmp (op_neD (hu64 hr)) o2_ne (qe_len rfl T.z_len (qe_var 0)) (qe_len rfl T.z_len (qe_var 1)) (nomark _)) (qss_one (qs_ret qe_bl)) qss_nil)
    (qss_cons (qs_for [2] (passes_of rfl) rfl (qi_rng1 rfl T.z_range (qe_len rfl T.z_len (qe_var 1))) (qg_name 2 nd) (qss_one (qs_if (qt_not (qt_tru (qe_call tk G_law_same (hr.mono h_law_same) rfl T.m_law_same T.f_law_same.kp T.b_law_same (qa_cons (qe_ix (qe_var 0) (qe_var 2)) (qa_cons (qe_ix (qe_var 1) (qe_var 2)) qa_nil))))) (qss_one (qs_ret qe_bl)) qss_nil)))
    (qss_one (qs_ret qe_bl))))))))))
abbrev N_law_value : List Str := ["_law_expression_here", "_law_variables", "_law_left", "_law_right", "_law_found"]
theorem sc_law_value : FnScope N_law_value ["_law_expression_here", "_law_variables"] (defScope s_law_value) := ⟨rfl, rfl, rfl, by decide +kernel, rfl, by decide +kernel, by decide +kernel⟩
def w_law_value (A : Ads) (p_law_value : SpD) : DS :=
    (wSeq (wIfS (wTst (wOp eqD (wOp ixD (wVar 0) (wC (.int 0))) (wC (.str (tx "number"))))) (wRet (wOp ixD (wVar 0) (wC (.int 1)))) wNext)
    (wSeq (wIfS (wTst (wOp eqD (wOp ixD (wVar 0) (wC (.int 0))) (wC (.str (tx "variable"))))) (wRet (wDget2 (wVar 1) (wOp ixD (wVar 0) (wC (.int 1))) (wC (.int 0)))) wNext)
    (wSeq (wAsg (wCall p_law_value (wCons (wOp ixD (wVar 0) (wC (.int 1))) (wCons (wVar 1) wNil))) (gN 2))
    (wSeq (wAsg (wCall p_law_value (wCons (wOp ixD (wVar 0) (wC (.int 2))) (wCons (wVar 1) wNil))) (gN 3))
    (wSeq (wIfS (wOr (wTst (wOp (isND false) (wVar 2) (wC .non))) (wTst (wOp (isND false) (wVar 3) (wC .non)))) (wRet (wC .non)) wNext)
    (wSeq (wIfS (wTst (wOp eqD (wOp ixD (wVar 0) (wC (.int 0))) (wC (.str (tx "="))))) (wRet (wApp intOf (wCons (wOp eqD (wVar 2) (wVar 3)) wNil))) wNext)
    (wSeq (wIfS (wTst (wOp eqD (wOp ixD (wVar 0) (wC (.int 0))) (wC (.str (tx "<"))))) (wRet (wApp intOf (wCons (wOp ltD (wVar 2) (wVar 3)) wNil))) wNext)
    (wSeq (wAsg (wOp mulD (wVar 2) (wVar 3)) (gN 4))
    (wSeq (wIfS (wTst (wOp eqD (wOp ixD (wVar 0) (wC (.int 0))) (wC (.str (tx "+"))))) (wAsg (wOp addD (wVar 2) (wVar 3)) (gN 4)) (wIfS (wTst (wOp eqD (wOp ixD (wVar 0) (wC (.int 0))) (wC (.str (tx "-"))))) (wAsg (wOp subD (wVar 2) (wVar 3)) (gN 4)) wNext))
    (wSeq (wIfS (wOr (wTst (wOp ltD (wVar 4) (wC (.int (-1000000))))) (wTst (wOp gtD (wVar 4) (wC (.int 1000000))))) (wRet (wC .non)) wNext)
    (wRet (wVar 4))))))))))))
theorem der_law_value (T : Txt w K mg A) {k : Nat} {k_law_value : Nat} {p_law_value : SpD} (G_law_value : FnD P w K mg base k_law_value A.a_law_value A.d_law_value ["_law_expression_here", "_law_variables"] p_law_value) (h_law_value : k_law_value ≤ k) (cdv : Value) (A0 : Around) (outer : List PySem.Env) (s : Shared) (H : Hp) (E : XK) (hr : Room k (A0.deeper (envOfC "_law_value" (defScope s_law_value) s.heap.objs.size A.a_law_value cdv))) :
    QSs (cxOf (L2.CX P w) P w K mg base N_law_value "_law_value" (defScope s_law_value) A.a_law_value cdv A0 outer s H E) (fun c od _ H => E c od H) (defBody s_law_value) (w_law_value A p_law_value) := by
  have nd := sc_law_value.nd
  have tk : Takes (cxOf (L2.CX P w) P w K mg base N_law_value "_law_value" (defScope s_law_value) A.a_law_value cdv A0 outer s H E) (fun c od _ H => E c od H) := takes_of rfl rfl rfl rfl
  exact (qss_cons (qs_if (qt_cmp (op_eqD (hu64 hr)) o2_eq (qe_ix (qe_var 0) qe_int) qe_str (nomark _)) (qss_one (qs_ret (qe_ix (qe_var 0) qe_int))) qss_nil)
    (qss_cons (qs_if (qt_cmp (op_eqD (hu64 hr)) o2_eq (qe_ix (qe_var 0) qe_int) qe_str (nomark _)) (qss_one (qs_ret (qe_dget2 (hu65 hr) (qe_var 1) (qe_ix (qe_var 0) qe_int) qe_int))) qss_nil)
    (qss_cons (qs_set 2 nd (qe_call tk G_law_value (hr.mono h_law_value) rfl T.m_law_value T.f_law_value.kp T.b_law_value (qa_cons (qe_ix (qe_var 0) qe_int) (qa_cons (qe_var 1) qa_nil))))
    (qss_cons (qs_set 3 nd (qe_call tk G_law_value (hr.mono h_law_value) rfl T.m_law_value T.f_law_value.kp T.b_law_value (qa_cons (qe_ix (qe_var 0) qe_int) (qa_cons (qe_var 1) qa_nil))))
    (qss_cons (qs_if (qt_bool (qw_or (qt_cmp op_isN' o2_isN (qe_var 2) qe_non (nomark _)) (qw_or1 (qt_cmp op_isN' o2_isN (qe_var 3) qe_non (nomark _))))) (qss_one (qs_ret qe_non)) qss_nil)
    (qss_cons (qs_if (qt_cmp (op_eqD (hu64 hr)) o2_eq (qe_ix (qe_var 0) qe_int) qe_str (nomark _)) (qss_one (qs_ret (qe_callTy call_intAll ol_int rfl T.z_int (show bootBuiltins "int" = some (.type "int") by decide +kernel) (qa_cons (qe_cmp (op_eqD (hu64 hr)) o2_eq (qe_var 2) (qe_var 3) (nomark _)) qa_nil)))) qss_nil)
    (qss_cons (qs_if (qt_cmp (op_eqD (hu64 hr)) o2_eq (qe_ix (qe_var 0) qe_int) qe_str (nomark _)) (qss_one (qs_ret (qe_callTy call_intAll ol_int rfl T.z_int (show bootBuiltins "int" = some (.type "int") by decide +kernel) (qa_cons (qe_cmp op_lt o2_lt (qe_var 2) (qe_var 3) (nomark _)) qa_nil)))) qss_nil)
    (qss_cons (qs_set 4 nd (qe_mul (qe_var 2) (qe_var 3)))
    (qss_cons (qs_if (qt_cmp (op_eqD (hu64 hr)) o2_eq (qe_ix (qe_var 0) qe_int) qe_str (nomark _)) (qss_one (qs_set 4 nd (qe_add (qe_var 2) (qe_var 3)))) (qss_one (qs_if (qt_cmp (op_eqD (hu64 hr)) o2_eq (qe_ix (qe_var 0) qe_int) qe_str (nomark _)) (qss_one (qs_set 4 nd (qe_sub (qe_var 2) (qe_var 3)))) qss_nil)))
    (qss_cons (qs_if (qt_bool (qw_or (qt_cmp op_lt o2_lt (qe_var 4) (qe_neg) (nomark _)) (qw_or1 (qt_cmp op_gt o2_gt (qe_var 4) qe_int (nomark _))))) (qss_one (qs_ret qe_non)) qss_nil)
    (qss_one (qs_ret (qe_var 4)))))))))))))
abbrev N_law : List Str := ["_law_script", "_law_expression_here", "_law_variables", "_law_k", "_law_cell_here", "_law_kept"]
theorem sc_law : FnScope N_law ["_law_script"] (defScope s_law) := ⟨rfl, rfl, rfl, by decide +kernel, rfl, by decide +kernel, by decide +kernel⟩
def w_law (A : Ads) (p_law_expression : SpD) (p_law_stream : SpD) (p_law_cell : SpD) (p_law_same : SpD) (p_law_value : SpD) (p_evaluate : SpD) : DS :=
    (wSeq (wAsg (wCall p_law_expression (wCons (wCall p_law_stream (wCons (wVar 0) (wCons (wC (.int 0)) (wCons (wC (.int 24)) wNil)))) (wCons (wC (.int 4)) wNil))) (gN 1))
    (wSeq (wAsg wDnew (gN 2))
    (wSeq (wFor (wRng1 (wCons (wC (.int 5)) wNil)) (gN 3) (wSeq (wAsg (wCall p_law_cell (wCons (wVar 0) (wCons (wOp addD (wC (.int 30)) (wVar 3)) wNil))) (gN 4))
    (wIfS (wTst (wOp neD (wOp modD (wVar 4) (wC (.int 5))) (wC (.int 0)))) (wDput (wVar 2) (wOp ixD (wLst (wCons (wC (.str (tx "n"))) (wCons (wC (.str (tx "i"))) (wCons (wC (.str (tx "x"))) (wCons (wC (.str (tx "total"))) (wCons (wC (.str (tx "q"))) wNil)))))) (wVar 3)) (wOp subD (wOp modD (wOp divD (wVar 4) (wC (.int 5))) (wC (.int 2000001))) (wC (.int 1000000)))) (wIfS (wTst (wOp eqD (wOp modD (wVar 4) (wC (.int 25))) (wC (.int 5)))) (wDput (wVar 2) (wOp ixD (wLst (wCons (wC (.str (tx "n"))) (wCons (wC (.str (tx "i"))) (wCons (wC (.str (tx "x"))) (wCons (wC (.str (tx "total"))) (wCons (wC (.str (tx "q"))) wNil)))))) (wVar 3)) (wOp subD (wOp modD (wOp divD (wVar 4) (wC (.int 25))) (wC (.int 41))) (wC (.int 20)))) wNext))))
    (wSeq (wAsg (wApp reprOf (wCons (wVar 2) wNil)) (gN 5))
    (wRet (wAndV (wCall p_law_same (wCons (wCall p_evaluate (wCons (wVar 1) (wCons (wVar 2) wNil))) (wCons (wCall p_law_value (wCons (wVar 1) (wCons (wVar 2) wNil))) wNil))) (wOp eqD (wApp reprOf (wCons (wVar 2) wNil)) (wVar 5))))))))
theorem der_law (T : Txt w K mg A) {k : Nat} {k_law_expression : Nat} {p_law_expression : SpD} (G_law_expression : FnD P w K mg base k_law_expression A.a_law_expression A.d_law_expression ["_law_stream_here", "_law_depth"] p_law_expression) (h_law_expression : k_law_expression ≤ k) {k_law_stream : Nat} {p_law_stream : SpD} (G_law_stream : FnD P w K mg base k_law_stream A.a_law_stream A.d_law_stream ["_law_script", "_law_first", "_law_count"] p_law_stream) (h_law_stream : k_law_stream ≤ k) {k_law_cell : Nat} {p_law_cell : SpD} (G_law_cell : FnD P w K mg base k_law_cell A.a_law_cell A.d_law_cell ["_law_script", "_law_k"] p_law_cell) (h_law_cell : k_law_cell ≤ k) {k_law_same : Nat} {p_law_same : SpD} (G_law_same : FnD P w K mg base k_law_same A.a_law_same A.d_law_same ["_law_actual", "_law_expected"] p_law_same) (h_law_same : k_law_same ≤ k) {k_law_value : Nat} {p_law_value : SpD} (G_law_value : FnD P w K mg base k_law_value A.a_law_value A.d_law_value ["_law_expression_here", "_law_variables"] p_law_value) (h_law_value : k_law_value ≤ k) {k_evaluate : Nat} {p_evaluate : SpD} (G_evaluate : FnD P w K mg base k_evaluate A.a_evaluate A.d_evaluate ["expression", "variables"] p_evaluate) (h_evaluate : k_evaluate ≤ k) (cdv : Value) (A0 : Around) (outer : List PySem.Env) (s : Shared) (H : Hp) (E : XK) (hr : Room k (A0.deeper (envOfC "law" (defScope s_law) s.heap.objs.size A.a_law cdv))) (hg : A0.guards = some []) :
    QSs (cxOf (L2.CX P w) P w K mg base N_law "law" (defScope s_law) A.a_law cdv A0 outer s H E) (fun c od _ H => E c od H) (defBody s_law) (w_law A p_law_expression p_law_stream p_law_cell p_law_same p_law_value p_evaluate) := by
  have nd := sc_law.nd
  have tk : Takes (cxOf (L2.CX P w) P w K mg base N_law "law" (defScope s_law) A.a_law cdv A0 outer s H E) (fun c od _ H => E c od H) := takes_of rfl rfl rfl rfl
  exact (qss_cons (qs_set 1 nd (qe_call tk G_law_expression (hr.mono h_law_expression) rfl T.m_law_expression T.f_law_expression.kp T.b_law_expression (qa_cons (qe_call tk G_law_stream (hr.mono h_law_stream) rfl T.m_law_stream T.f_law_stream.kp T.b_law_stream (qa_cons (qe_var 0) (qa_cons qe_int (qa_cons qe_int qa_nil)))) (qa_cons qe_int qa_nil))))
    (qss_cons (qs_set 2 nd qe_dnew)
    (qss_cons (qs_for [3] (passes_of rfl) rfl (qi_rng1 rfl T.z_range qe_int) (qg_name 3 nd) (qss_cons (qs_set 4 nd (qe_call tk G_law_cell (hr.mono h_law_cell) rfl T.m_law_cell T.f_law_cell.kp T.b_law_cell (qa_cons (qe_var 0) (qa_cons (qe_add qe_int (qe_var 3)) qa_nil))))
    (qss_one (qs_if (qt_cmp (op_neD (hu64 hr)) o2_ne (qe_mod (qe_var 4) qe_int) qe_int (nomark _)) (qss_one (qs_dput (hu65 hr) (qe_var 2) (qe_ix (qe_lst (qa_cons qe_str (qa_cons qe_str (qa_cons qe_str (qa_cons qe_str (qa_cons qe_str qa_nil)))))) (qe_var 3)) (qe_sub (qe_mod (qe_div (qe_var 4) qe_int) qe_int) qe_int))) (qss_one (qs_if (qt_cmp (op_eqD (hu64 hr)) o2_eq (qe_mod (qe_var 4) qe_int) qe_int (nomark _)) (qss_one (qs_dput (hu65 hr) (qe_var 2) (qe_ix (qe_lst (qa_cons qe_str (qa_cons qe_str (qa_cons qe_str (qa_cons qe_str (qa_cons qe_str qa_nil)))))) (qe_var 3)) (qe_sub (qe_mod (qe_div (qe_var 4) qe_int) qe_int) qe_int))) qss_nil))))))
    (qss_cons (qs_set 5 nd (qe_callB (call_reprD hg (hu65 hr)) ol_repr rfl T.z_repr (show bootBuiltins "repr" = some (.builtin "repr") by decide +kernel) (qa_cons (qe_var 2) qa_nil)))
    (qss_one (qs_ret (qe_and (qe_call tk G_law_same (hr.mono h_law_same) rfl T.m_law_same T.f_law_same.kp T.b_law_same (qa_cons (qe_call tk G_evaluate (hr.mono h_evaluate) rfl T.m_evaluate T.f_evaluate.kp T.b_evaluate (qa_cons (qe_var 1) (qa_cons (qe_var 2) qa_nil))) (qa_cons (qe_call tk G_law_value (hr.mono h_law_value) rfl T.m_law_value T.f_law_value.kp T.b_law_value (qa_cons (qe_var 1) (qa_cons (qe_var 2) qa_nil))) qa_nil))) (qe_one (qe_cmp (op_eqD (hu64 hr)) o2_eq (qe_callB (call_reprD hg (hu65 hr)) ol_repr rfl T.z_repr (show bootBuiltins "repr" = some (.builtin "repr") by decide +kernel) (qa_cons (qe_var 2) qa_nil)) (qe_var 5) (nomark _))))))))))
end

open PySem.NumText
local macro_rules | `(tactic| walk_at "q") => `(tactic| simp only [wSeq, wNext, wEx, wRet, wRetN, wIfS, wAsg, wAug, wSetF, wAugF, wSetL, wRaise, wVar, wC, wOp, wTst, wChain, QL.wTru, wAnd, wOr, QL.wNot, wAndV, wOrV, wNotV, wIf, wNil, wCons, wTup, wLst, wSl, wNo, wSo, wApp, wBM, wBM0, wCall, wMeth, wMake, wFld, wBrk, wCnt, wYes, wTry, wTryAs, wXf, wFmt, wJ, wInK, wIxK, wFor, wLc, wRng1, wRng2, wIt, wItT, wItS, wDnew, wDget, wDget1, wDget2, wInDic, wDput, onK_same, e_repr,
  gN, gT, gsN, gsC, onS, List.set, List.getElem?_cons_zero, List.getElem?_cons_succ, eqD, neD, isND, isTy_list, isTy_str, isTy_dict, onL_same, upm_same, upm_upm, MO.lst.injEq, MO.ins.injEq, MO.dic.injEq, exists_eq, exists_eq', List.cons.injEq,
  e_add_i, e_add_s, e_add_t, e_add_o, e_int, e_int0, e_mul_i, e_mul_s, e_in_s, e_in_t, e_in_o, e_ix_s, e_ix_t, e_ix_f, e_ix_o, e_sl_s, e_sl_t, e_sl_o, e_tru_n, e_tru_b, e_tru_i, e_tru_s, e_tru_t, e_len_s, e_len_t, e_len_f, e_len_o, e_abs, e_max, e_min, e_int_i, e_int_b, e_int_s, e_str_i, e_str_s, e_isi, e_isE, e_fmt_s, e_strT_i, e_strT_s, e_strT_t, e_fmt_i, e_maxT, e_ty_n, e_ty_b, e_ty_i, e_ty_s, e_ty_t, e_ty_f, e_app, e_ext, e_join_o, e_join_t, e_none_n, e_none_b, e_none_i, e_none_s, e_none_t, e_none_f, e_none_o,
  isiT, List.mem_cons, String.reduceEq, String.reduceBEq, or_true, true_or, or_false, false_or, Bool.or_false, Bool.or_true, Bool.false_or, Bool.true_or, Bool.and_true, Bool.and_false, Bool.true_and, Bool.false_and,
  decide_eq_true_eq, Bool.false_eq_true, if_false, if_true, reduceIte, ite_true, ite_false, true_and, and_true, Option.some.injEq, QL.D.bl.injEq, QL.D.int.injEq, QL.D.str.injEq, exists_eq_left, exists_eq_left', exists_eq_right, deq_str, deq_int, deq_bl, deq_non, deq_non_str, deq_str_non, deq_int_str, deq_str_int, deq_non_int, deq_int_non, deq_tup_str, deq_str_tup, deq_tup_non, deq_non_tup, deq_tup_nil, deq_tup_cons, deq_tup_nc, deq_tup_cn, atI_0, atI_1, atI_2, atI_3, Bool.not_true, Bool.not_false, Bool.false_bne, Bool.true_bne, bne_self_eq_false, Bool.xor_false, Bool.false_xor, Bool.true_xor, List.length_cons, List.length_nil, Nat.zero_le, Nat.reduceAdd, Nat.reduceLeDiff, forall_const])

section
variable {P : Program} {w : World} {K : PySem.W.Frag} {mg : Str → Option Value} {base : Heap} {A : Ads}
def sp_law_cell : SpD := fun ds M Q _ => ∃ (ns : List Int) (k : Nat), ds = [.fl (ns.map .int), .int k] ∧ Q (.int (ns.getD k 0)) M
theorem ok_law_cell (T : Txt w K mg A) : FnD P w K mg base 1 A.a_law_cell A.d_law_cell ["_law_script", "_law_k"] sp_law_cell := by
  refine fnD_of T.f_law_cell sc_law_cell (fun ds M Q E ⟨_, _, h, _⟩ => by rw [h]; rfl) (fun cdv A0 outer s H E hr => der_law_cell T cdv A0 outer s H E hr) ?_
  rintro ds M Q E ⟨ns, k, rfl, q⟩
  show w_law_cell A _ [some (.fl (ns.map .int)), some (.int k)] M
  unfold w_law_cell
  walk_at "q"
  rw [List.length_map]
  refine ite2 (fun h => ?_) (fun h => ?_)
  · have h' : k < ns.length := by omega
    refine ⟨.int ns[k], by rw [atI_cast]; simp [h'], M, Sub.refl _, ?_⟩
    rwa [List.getD_eq_getElem?_getD, List.getElem?_eq_getElem h'] at q
  · refine ⟨M, Sub.refl _, ?_⟩
    rwa [List.getD_eq_getElem?_getD, List.getElem?_eq_none (by omega)] at q
def sp_law_draws : SpD := fun ds M Q _ => ∃ (c : Int) (n : Nat), ds = [.int c, .int n] ∧ n ≤ 60 ∧ ∀ (p : Addr) (xs : List Int), M p = none → xs.length = n → (∀ x ∈ xs, 0 ≤ x ∧ x < 60) → Q (.ob p) (upm M p (.lst (xs.map .int)))
theorem ok_law_draws (T : Txt w K mg A) : FnD P w K mg base 1 A.a_law_draws A.d_law_draws ["_law_cell_here", "_law_count"] sp_law_draws := by
  refine fnD_of T.f_law_draws sc_law_draws (fun ds M Q E ⟨_, _, h, _⟩ => by rw [h]; rfl) (fun cdv A0 outer s H E hr => der_law_draws T cdv A0 outer s H E hr) ?_
  rintro ds M Q E ⟨c, n, rfl, hn, q⟩
  show w_law_draws A _ [some (.int c), some (.int n), none, none, none, none, none] M
  unfold w_law_draws
  walk_at "q"
  refine ⟨⟨by decide, by decide, by decide⟩, ?_⟩
  intro p hp
  obtain ⟨I, hI⟩ : ∃ I : Nat → QL.Env → Mp → Prop, I = fun i δ M' => ∃ (v : Int) (g : Bool) (xs : List Int) (a b : Option QL.D), δ = [some (.int c), some (.int n), some (.int v), some (.bl g), some (.ob p), a, b] ∧ M' = upm M p (.lst (xs.map .int)) ∧ xs.length = min i n ∧ ∀ x ∈ xs, 0 ≤ x ∧ x < 60 := ⟨_, rfl⟩
  refine ⟨by decide, for_rng I ?_ ?_ ?_⟩
  · rw [hI]; exact ⟨_, _, [], none, none, rfl, rfl, by simp, fun x h => by cases h⟩
  · intro i δ M' hi h
    rw [hI] at h
    obtain ⟨v, g, xs, a, b, rfl, rfl, hl, hb⟩ := h
    have hi : i < 60 := hi
    rw [Int.zero_add]
    walk_at "q"
    have nx : ∀ (y : Int) (v : Int) (a b : Option QL.D), i < n → 0 ≤ y → y < 60 → I (i + 1) [some (.int c), some (.int n), some (.int v), some (.bl g), some (.ob p), a, b] (upm M p (.lst (xs.map .int ++ [.int y]))) := by
      intro y v a b h1 h2 h3
      rw [hI]
      refine ⟨v, g, xs ++ [y], a, b, rfl, by simp, by rw [List.length_append, hl]; simp; omega, fun x hx => ?_⟩
      rcases List.mem_append.mp hx with z | z
      · exact hb x z
      · rw [List.mem_singleton.mp z]; exact ⟨h2, h3⟩
    have hsz : (xs.map QL.D.int).length < sizeLine := by rw [List.length_map, line_eq]; omega
    have stay : ¬ (i < n) → I (i + 1) [some (.int c), some (.int n), some (.int v), some (.bl g), some (.ob p), some (.int i), b] (upm M p (.lst (xs.map .int))) := by
      intro h
      rw [hI]
      exact ⟨v, g, xs, _, b, rfl, rfl, by omega, hb⟩
    have mul1 : ∀ a b : Int, (-(2 ^ 64) < b ∧ b < 2 ^ 64) → CMul a b := fun a b h => .inr h
    have mixed : i < n → CMul v 48271 ∧ CMul (i : Int) 69621 ∧ (0 : Int) < 2147483647 ∧ CMul ((v * 48271 + i * 69621 + 11) % 2147483647) ((v * 48271 + i * 69621 + 11) % 2147483647) ∧ CMul (i : Int) 7919 ∧ (0 : Int) < 998244353 ∧ (0 : Int) < 60 ∧ (xs.map QL.D.int).length < sizeLine ∧
        I (i + 1) [some (.int c), some (.int n), some (.int v), some (.bl g), some (.ob p), some (.int i), some (.int (((v * 48271 + i * 69621 + 11) % 2147483647 * ((v * 48271 + i * 69621 + 11) % 2147483647) + i * 7919 + 5) % 998244353))]
          (upm M p (.lst (xs.map .int ++ [.int (((v * 48271 + i * 69621 + 11) % 2147483647 * ((v * 48271 + i * 69621 + 11) % 2147483647) + i * 7919 + 5) % 998244353 % 60)]))) := by
      intro h
      refine ⟨mul1 _ _ (by omega), mul1 _ _ (by omega), by decide, ?_, mul1 _ _ (by omega), by decide, by decide, hsz, nx _ _ _ _ h (Int.emod_nonneg _ (by decide)) (Int.emod_lt_of_pos _ (by decide))⟩
      generalize v * 48271 + (i : Int) * 69621 + 11 = t
      have t1 := Int.emod_nonneg t (show (2147483647 : Int) ≠ 0 by decide)
      have t2 := Int.emod_lt_of_pos t (show (0 : Int) < 2147483647 by decide)
      exact mul1 _ _ (by omega)
    refine ite2 (fun h => ?_) (fun h => ?_)
    · have h' : i < n := by omega
      refine ite2 (fun hg => ?_) (fun hg => ?_)
      · exact ⟨by decide, hsz, ⟨by decide, by decide⟩, nx _ _ _ _ h' (Int.emod_nonneg _ (by decide)) (Int.emod_lt_of_pos _ (by decide))⟩
      · rw [if_pos h]; exact mixed h'
    · rw [if_neg h]; exact stay (by omega)
  · intro δ M' h
    rw [hI] at h
    obtain ⟨v, g, xs, a, b, rfl, rfl, hl, hb⟩ := h
    walk_at "q"
    have hl : xs.length = min 60 n := hl
    exact ⟨_, Sub.refl _, q p xs hp (by omega) hb⟩
def sp_law_stream : SpD := fun ds M Q _ => ∃ (ns : List Int) (f n : Nat), ds = [.fl (ns.map .int), .int f, .int n] ∧ 0 < n ∧ n ≤ 1000 ∧ ∀ (s p q : Addr) (xs : List Int) (M' : Mp), Sub M M' → M s = none → M p = none → M q = none → Stm s p q xs M' → Q (.ob s) M'
theorem ok_law_stream (T : Txt w K mg A) : FnD P w K mg base 2 A.a_law_stream A.d_law_stream ["_law_script", "_law_first", "_law_count"] sp_law_stream := by
  refine fnD_of T.f_law_stream sc_law_stream (fun ds M Q E ⟨_, _, _, h, _⟩ => by rw [h]; rfl) (fun cdv A0 outer s H E hr => der_law_stream T (ok_law_draws T) (Nat.le_refl _) (ok_law_cell T) (Nat.le_refl _) cdv A0 outer s H E hr) ?_
  rintro ds M Q E ⟨ns, f, n, rfl, hn0, hn, q⟩
  show w_law_stream A _ _ _ [some (.fl (ns.map .int)), some (.int f), some (.int n), none, none] M
  unfold w_law_stream
  walk_at "q"
  intro p hp
  obtain ⟨I, hI⟩ : ∃ I : Nat → QL.Env → Mp → Prop, I = fun i δ M' => ∃ (xs : List Int) (a : Option QL.D), δ = [some (.fl (ns.map .int)), some (.int f), some (.int n), some (.ob p), a] ∧ Sub M M' ∧ M' p = some (.lst (xs.map .int)) ∧ xs.length = 12 * i ∧ ∀ x ∈ xs, 0 ≤ x ∧ x < 60 := ⟨_, rfl⟩
  refine ⟨⟨by omega, by omega⟩, for_rng I ?_ ?_ ?_⟩
  · rw [hI]; exact ⟨[], none, rfl, Sub.new hp (Sub.refl _), upm_same, rfl, fun x h => by cases h⟩
  · intro i δ M' hi h
    rw [hI] at h
    obtain ⟨xs, a, rfl, hs, hM, hl, hb⟩ := h
    have hi : i < n := by simpa using hi
    rw [Int.zero_add]
    walk_at "q"
    refine ⟨⟨_, hM⟩, ns, f + i, rfl, _, 12, rfl, by decide, ?_⟩
    intro r ys hr hyl hyb
    walk_at "q"
    have npr : p ≠ r := mne hM hr
    refine ⟨xs.map .int, by rw [upm_ne npr]; exact hM, by rw [List.length_map, List.length_map, line_eq]; omega, ?_⟩
    rw [hI]
    have hpM : M p = none := hp
    refine ⟨xs ++ ys, _, rfl, fun b o e => ?_, by rw [upm_same]; simp, by rw [List.length_append]; omega, fun x hx => (List.mem_append.mp hx).elim (hb x) (hyb x)⟩
    rw [upm_ne (mne e hpM), upm_ne (mne (hs b o e) hr)]
    exact hs b o e
  · intro δ M' h
    rw [hI] at h
    obtain ⟨xs, a, rfl, hs, hM, hl, hb⟩ := h
    have hl : xs.length = 12 * n := by simpa using hl
    walk_at "q"
    intro q1 hq1 s1 hs1
    obtain ⟨hs1, n1⟩ := upm_none hs1
    have npq : p ≠ q1 := mne hM hq1
    have nps : p ≠ s1 := mne hM hs1
    have free : ∀ {b : Addr}, M' b = none → M b = none := fun {b} e => by
      cases z : M b with
      | none => rfl
      | some o => rw [hs b o z] at e; cases e
    refine ⟨_, Sub.refl _, q s1 p q1 xs _ (Sub.new (free hs1) (Sub.new (free hq1) hs)) (free hs1) hp (free hq1) ?_⟩
    exact ⟨upm_same, by rw [upm_ne nps, upm_ne npq]; exact hM, ⟨0, by decide, by rw [upm_ne (Ne.symm n1)]; exact upm_same⟩, n1, npq, fun e => by rw [e] at hl; simp at hl; omega, hb⟩
def sp_law_next : SpD := fun ds M Q _ => ∃ (s p q : Addr) (xs : List Int) (n : Int), ds = [.ob s, .int n] ∧ 0 < n ∧ Stm s p q xs M ∧ ∀ (v : Int) (M' : Mp), 0 ≤ v → v < n → v < 60 → Drawn s p q xs M M' → Q (.int v) M'
theorem ok_law_next (T : Txt w K mg A) : FnD P w K mg base 1 A.a_law_next A.d_law_next ["_law_stream_here", "_law_many"] sp_law_next := by
  refine fnD_of T.f_law_next sc_law_next (fun ds M Q E ⟨_, _, _, _, _, h, _⟩ => by rw [h]; rfl) (fun cdv A0 outer s H E hr => der_law_next T cdv A0 outer s H E hr) ?_
  rintro ds M Q E ⟨s, p, q, xs, n, rfl, hn, S, k⟩
  show w_law_next A _ [some (.ob s), some (.int n), none, none, none] M
  obtain ⟨i, hi, hq⟩ := S.hq
  have hx : 0 < xs.length := by
    cases xs with
    | nil => exact absurd rfl S.ne
    | cons x r => simp
  unfold w_law_next
  walk_at "q"
  refine ⟨_, S.hs, _, atI_0 _ _, _, S.hs, _, atI_1 _ _ _, ?_⟩
  walk_at "q"
  refine ⟨_, hq, _, atI_0 _ _, ?_⟩
  walk_at "q"
  refine ⟨_, S.hp, ?_⟩
  walk_at "q"
  rw [List.length_map]
  have hm0 := Int.emod_nonneg i (show ((xs.length : Nat) : Int) ≠ 0 by omega)
  have hm1 := Int.emod_lt_of_pos i (show (0 : Int) < (xs.length : Nat) by omega)
  obtain ⟨j, hj⟩ := Int.eq_ofNat_of_zero_le hm0
  have hj' : j < xs.length := by omega
  refine ⟨by omega, _, S.hp, .int xs[j], by rw [hj]; exact (atI_cast _ _).trans (by simp [hj']), ?_⟩
  walk_at "q"
  refine ⟨hn, _, hq, _, atI_0 _ _, ?_⟩
  walk_at "q"
  refine ⟨q, _, 0, 0, rfl, rfl, hq, rfl, ?_⟩
  walk_at "q"
  have b := S.bd xs[j] (List.getElem_mem hj')
  have d0 := Int.emod_nonneg xs[j] (show n ≠ 0 by omega)
  have d1 := Int.emod_lt_of_pos xs[j] hn
  have d2 : xs[j] % n ≤ xs[j] := by
    by_cases h : xs[j] < n
    · rw [Int.emod_eq_of_lt b.1 h]; exact Int.le_refl _
    · omega
  exact ⟨_, Sub.refl _, k _ _ d0 d1 (by omega) ⟨(Ext.refl q M).at, S.ext (Ext.refl q M).at ⟨i + 1, by omega, upm_same⟩⟩⟩
/-- a draw: behind it the state is as before, but for the place -/
theorem next_ok {s p q : Addr} {xs : List Int} {n : Int} {M : Mp} {Q : KD} {E : XKD} (S : Stm s p q xs M) (hn : 0 < n) (h : ∀ (v : Nat) (M' : Mp), (v : Int) < n → v < 60 → Drawn s p q xs M M' → Q (.int v) M') : sp_law_next [.ob s, .int n] M Q E :=
  ⟨s, p, q, xs, n, rfl, hn, S, fun v M' h0 h1 h2 d => by
    obtain ⟨u, rfl⟩ := Int.eq_ofNat_of_zero_le h0
    exact h u M' h1 (by omega) d⟩
end

section
variable {P : Program} {w : World} {K : PySem.W.Frag} {mg : Str → Option Value} {base : Heap} {A : Ads}
def sp_law_is_integer : SpD := fun ds M Q _ => ∃ i : Int, ds = [.int i] ∧ Q (.bl true) M
theorem ok_law_is_integer (T : Txt w K mg A) : FnD P w K mg base 1 A.a_law_is_integer A.d_law_is_integer ["_law_actual"] sp_law_is_integer := by
  refine fnD_of T.f_law_is_integer sc_law_is_integer (fun ds M Q E ⟨_, h, _⟩ => by rw [h]; rfl) (fun cdv A0 outer s H E hr => der_law_is_integer T cdv A0 outer s H E hr) ?_
  rintro ds M Q E ⟨i, rfl, q⟩
  show w_law_is_integer A _ [some (.int i)] M
  unfold w_law_is_integer
  walk_at "q"
  exact ⟨M, Sub.refl _, q⟩
/-- True of equal data -/
def sp_law_same (n : Nat) : SpD := fun ds M Q _ => Q (.bl true) M ∧ ((∃ d : QL.D, ds = [d, d] ∧ okN n d = true ∧ okL d = true ∧ n ≤ 60) ∨
  ∃ (a b : Addr) (xs : List QL.D), ds = [.ob a, .ob b] ∧ M a = some (.lst xs) ∧ M b = some (.lst xs) ∧ okN.okNs (n - 1) xs = true ∧ okL.okLs xs = true ∧ xs.length ≤ 1000000 ∧ 1 ≤ n ∧ n ≤ 60)
theorem ok_law_same (T : Txt w K mg A) : ∀ n, FnD P w K mg base (n + 2) A.a_law_same A.d_law_same ["_law_actual", "_law_expected"] (sp_law_same n) := by
  intro n
  obtain ⟨sp, hsp, G⟩ : ∃ sp : SpD, (∀ (d : QL.D) (M : Mp) (Q : KD) (E : XKD), 1 ≤ n → okN (n - 1) d = true → okL d = true → n ≤ 60 → Q (.bl true) M → sp [d, d] M Q E) ∧ FnD P w K mg base (n + 1) A.a_law_same A.d_law_same ["_law_actual", "_law_expected"] sp := by
    cases n with
    | zero => exact ⟨_, fun _ _ _ _ h => by omega, FnD.none⟩
    | succ n => exact ⟨sp_law_same n, fun d M Q E _ h1 h2 h3 q => ⟨q, .inl ⟨d, rfl, h1, h2, by omega⟩⟩, ok_law_same T n⟩
  refine fnD_of T.f_law_same sc_law_same (fun ds M Q E ⟨_, h⟩ => ?_) (fun cdv A0 outer s H E hr => der_law_same T (ok_law_is_integer T) (by omega) G (Nat.le_refl _) cdv A0 outer s H E hr) ?_
  · rcases h with ⟨_, h, _⟩ | ⟨_, _, _, h, _⟩ <;> rw [h] <;> rfl
  rintro ds M Q E ⟨q, h⟩
  have row : ∀ (d e : QL.D) (xs : List QL.D), okN.okNs (n - 1) xs = true → okL.okLs xs = true → xs.length ≤ 1000000 → 1 ≤ n → n ≤ 60 →
      (∀ (i : Nat) (x : QL.D) (Q' : KD), xs[i]? = some x → Q' x M → ixD d (.int i) M Q') → (∀ (i : Nat) (x : QL.D) (Q' : KD), xs[i]? = some x → Q' x M → ixD e (.int i) M Q') →
      ForOk ⟨rngD 0 (xs.length : Int).toNat, fun _ => True⟩ (gN 2) (wIfS (QL.wNot (QL.wTru (wCall sp (wCons (wOp ixD (wVar 0) (wVar 2)) (wCons (wOp ixD (wVar 1) (wVar 2)) wNil))))) (wRet (wC (.bl false))) wNext)
        { nx := wRet (wC (.bl true)) { nx := fun _ M' => endR Q .non M', rt := endR Q, xx := endX E }, rt := endR Q, xx := endX E } [some d, some e, none] M := by
    intro d e xs h1 h2 h3 h4 h5 hd he
    obtain ⟨I, hI⟩ : ∃ I : Nat → QL.Env → Mp → Prop, I = fun i δ M' => ∃ a : Option QL.D, δ = [some d, some e, a] ∧ M' = M := ⟨_, rfl⟩
    refine for_rng I ?_ ?_ ?_
    · rw [hI]; exact ⟨none, rfl, rfl⟩
    · intro i δ M' hi h
      rw [hI] at h
      obtain ⟨a, rfl, rfl⟩ := h
      have hi : i < xs.length := by simpa using hi
      have hx : xs[i]? = some xs[i] := by simp [hi]
      rw [Int.zero_add]
      walk_at "q"
      refine hd i _ _ hx (he i _ _ hx (hsp _ _ _ _ h4 (okNs_get h1 hx) (okLs_get h2 hx) h5 ?_))
      walk_at "q"
      rw [hI]; exact ⟨_, rfl, rfl⟩
    · intro δ M' h
      rw [hI] at h
      obtain ⟨a, rfl, rfl⟩ := h
      walk_at "q"
      exact ⟨_, Sub.refl _, q⟩
  have q' : endR Q (.bl true) M := ⟨M, Sub.refl _, q⟩
  have bnd : ∀ xs : List QL.D, xs.length ≤ 1000000 → -(2 ^ 62) ≤ (xs.length : Int) ∧ (xs.length : Int) < 2 ^ 62 := fun xs h => by omega
  rcases h with ⟨d, rfl, h1, h2, h3⟩ | ⟨a, b, xs, rfl, ha, hb, h1, h2, h3, h4, h5⟩
  · show w_law_same A _ _ _ [some d, some d, none] M
    have h64 : okN 64 d = true := okN_mono h1 (by omega)
    have hself := deq_self h1
    unfold w_law_same
    cases d with
    | non => walk_at "q"; exact q'
    | bl v => walk_at "q"; exact ⟨rfl, rfl, by simpa using q'⟩
    | int v => walk_at "q"; exact ⟨v, rfl, by walk_at "q"; exact ⟨rfl, rfl, by simpa using q'⟩⟩
    | str v => walk_at "q"; exact ⟨rfl, rfl, by simpa using q'⟩
    | tup xs =>
      have z : 1 ≤ n := by
        cases n with
        | zero => simp [okN] at h1
        | succ n => omega
      have h1' : okN.okNs (n - 1) xs = true := by
        obtain ⟨m, rfl⟩ : ∃ m, n = m + 1 := ⟨n - 1, by omega⟩
        simpa [okN] using h1
      have h2' : xs.length ≤ 1000000 ∧ okL.okLs xs = true := by simpa [okL] using h2
      walk_at "q"
      refine ⟨rfl, rfl, ?_⟩
      rw [if_neg (by simp)]
      exact ⟨bnd xs h2'.1, row _ _ xs h1' h2'.2 h2'.1 z h3 (fun i x Q' e k => ⟨x, by rw [atI_cast]; exact e, k⟩) (fun i x Q' e k => ⟨x, by rw [atI_cast]; exact e, k⟩)⟩
    | fl xs =>
      have z : 1 ≤ n := by
        cases n with
        | zero => simp [okN] at h1
        | succ n => omega
      have h1' : okN.okNs (n - 1) xs = true := by
        obtain ⟨m, rfl⟩ : ∃ m, n = m + 1 := ⟨n - 1, by omega⟩
        simpa [okN] using h1
      have h2' : xs.length ≤ 1000000 ∧ okL.okLs xs = true := by simpa [okL] using h2
      walk_at "q"
      refine ⟨rfl, rfl, ?_⟩
      rw [if_neg (by simp)]
      exact ⟨bnd xs h2'.1, row _ _ xs h1' h2'.2 h2'.1 z h3 (fun i x Q' e k => ⟨x, by rw [atI_cast]; exact e, k⟩) (fun i x Q' e k => ⟨x, by rw [atI_cast]; exact e, k⟩)⟩
    | ob a => simp [okN] at h1
    | ty v => simp [okN] at h1
    | any => simp [okN] at h1
  · show w_law_same A _ _ _ [some (.ob a), some (.ob b), none] M
    have aL : ∀ {k : List QL.D → Prop}, onL M a k = k xs := onL_of ha
    have bL : ∀ {k : List QL.D → Prop}, onL M b k = k xs := onL_of hb
    have aT : ∀ {k : String → Prop}, tyN (.ob a) M k = k "list" := fun {k} => tyN_list ha
    have bT : ∀ {k : String → Prop}, tyN (.ob b) M k = k "list" := fun {k} => tyN_list hb
    unfold w_law_same
    repeat (first | walk_at "q" | simp only [aL, bL, aT, bT])
    refine ⟨rfl, rfl, ?_⟩
    rw [if_neg (by simp)]
    repeat (first | walk_at "q" | simp only [aL, bL, aT, bT])
    exact ⟨bnd xs h3, row _ _ xs h1 h2 h3 h4 h5 (fun i x Q' e k => ⟨xs, ha, x, by rw [atI_cast]; exact e, k⟩) (fun i x Q' e k => ⟨xs, hb, x, by rw [atI_cast]; exact e, k⟩)⟩
end

section
variable {P : Program} {w : World} {K : PySem.W.Frag} {mg : Str → Option Value} {base : Heap} {A : Ads}
def sp_law_number : SpD := fun ds M Q _ => ∃ (s p q : Addr) (xs : List Int), ds = [.ob s] ∧ Stm s p q xs M ∧ ∀ (v : Nat) (M' : Mp), v ≤ 1000000 → Drawn s p q xs M M' → Q (.int v) M'
theorem ok_law_number (T : Txt w K mg A) : FnD P w K mg base 2 A.a_law_number A.d_law_number ["_law_stream_here"] sp_law_number := by
  refine fnD_of T.f_law_number sc_law_number (fun ds M Q E ⟨_, _, _, _, h, _⟩ => by rw [h]; rfl) (fun cdv A0 outer s H E hr => der_law_number T (ok_law_next T) (Nat.le_refl _) cdv A0 outer s H E hr) ?_
  rintro ds M Q E ⟨s, p, q, xs, rfl, S, k⟩
  show w_law_number A _ _ [some (.ob s), none] M
  have ret : ∀ (v : Int) (M' : Mp), 0 ≤ v → v ≤ 1000000 → Drawn s p q xs M M' → endR Q (.int v) M' := fun v M' h0 h1 d => by
    obtain ⟨u, rfl⟩ := Int.eq_ofNat_of_zero_le h0
    exact ⟨M', Sub.refl _, k u M' (by omega) d⟩
  have mul1 : ∀ a b : Int, (-(2 ^ 64) < a ∧ a < 2 ^ 64) → CMul a b := fun a b h => .inl h
  unfold w_law_number
  walk_at "q"
  refine next_ok S (by decide) fun v1 M1 a1 b1 d1 => ?_
  walk_at "q"
  refine ⟨rfl, rfl, ite2 (fun _ => ?_) (fun _ => ?_)⟩
  · refine next_ok d1.2 (by decide) fun v2 M2 a2 b2 d2 => ?_
    intro l hl
    have d2' := d1.trans d2
    refine next_ok (d2.2.new hl) (by decide) fun v3 M3 a3 b3 d3 => ?_
    walk_at "q"
    have e3 : M3 l = some (.lst [.int 1, .int 16949]) := d3.1 _ _ ((d2.2.neq hl).1) upm_same
    have d : Drawn s p q xs M M3 := ⟨(d2'.1.new hl).trans d3.1, d3.2⟩
    refine ⟨_, e3, ?_⟩
    have hv3 : v3 = 0 ∨ v3 = 1 := by omega
    rcases hv3 with rfl | rfl
    · refine ⟨.int 1, rfl, ?_⟩
      walk_at "q"
      exact ⟨mul1 _ _ (by omega), ret _ _ (by omega) (by omega) d⟩
    · refine ⟨.int 16949, rfl, ?_⟩
      walk_at "q"
      exact ⟨mul1 _ _ (by omega), ret _ _ (by omega) (by omega) d⟩
  refine ⟨rfl, rfl, ite2 (fun _ => ?_) (fun _ => ?_)⟩
  · refine next_ok d1.2 (by decide) fun v2 M2 a2 b2 d2 => ?_
    walk_at "q"
    refine ⟨mul1 _ _ (by omega), ?_⟩
    refine next_ok d2.2 (by decide) fun v3 M3 a3 b3 d3 => ?_
    walk_at "q"
    exact ret _ _ (by omega) (by omega) (d1.trans (d2.trans d3))
  · refine next_ok d1.2 (by decide) fun v2 M2 a2 b2 d2 => ?_
    exact ret _ _ (by omega) (by omega) (d1.trans d2)
end

section
variable {P : Program} {w : World} {K : PySem.W.Frag} {mg : Str → Option Value} {base : Heap} {A : Ads}
def VARS5 : List Tx := [tx "n", tx "i", tx "x", tx "total", tx "q"]
theorem vars5_ok : ∀ v ∈ VARS5, VarOk v := by
  have h : ∀ v ∈ VARS5, v ≠ [] ∧ v.length ≤ 8 ∧ (∀ c ∈ v, c ∈ LET) ∧ isName v = true := by decide +kernel
  exact h
def sp_law_variable : SpD := fun ds M Q _ => ∃ (s p q : Addr) (xs : List Int), ds = [.ob s] ∧ Stm s p q xs M ∧ ∀ (v : Tx) (M' : Mp), VarOk v → Drawn s p q xs M M' → Q (.str v) M'
theorem ok_law_variable (T : Txt w K mg A) : FnD P w K mg base 2 A.a_law_variable A.d_law_variable ["_law_stream_here"] sp_law_variable := by
  refine fnD_of T.f_law_variable sc_law_variable (fun ds M Q E ⟨_, _, _, _, h, _⟩ => by rw [h]; rfl) (fun cdv A0 outer s H E hr => der_law_variable T (ok_law_next T) (Nat.le_refl _) cdv A0 outer s H E hr) ?_
  rintro ds M Q E ⟨s, p, q, xs, rfl, S, k⟩
  show w_law_variable A _ _ [some (.ob s)] M
  unfold w_law_variable
  (repeat (first | walk_at "q" | simp only [QL.D.ob.injEq, exists_and_left, exists_eq_left', MO.ins.injEq, Option.some.injEq, true_and, and_true, onL_same, upm_same, upm_upm]))
  intro l hl
  have ne := S.neq hl
  refine next_ok (S.new hl) (by decide) fun v M2 a2 b2 d2 => ?_
  (repeat (first | walk_at "q" | simp only [QL.D.ob.injEq, exists_and_left, exists_eq_left', MO.ins.injEq, Option.some.injEq, true_and, and_true, onL_same, upm_same, upm_upm]))
  have hv : v < VARS5.length := by show v < 5; omega
  have el : M2 l = some (.lst (VARS5.map QL.D.str)) := d2.1 _ _ ne.1 upm_same
  refine ⟨_, el, .str VARS5[v], by rw [atI_cast, List.getElem?_map, List.getElem?_eq_getElem hv]; rfl, M2, Sub.refl _, k _ _ (vars5_ok _ (List.getElem_mem hv)) ⟨((Ext.refl q M).new hl).trans d2.1, d2.2⟩⟩
def OPS7 : List Nat := [61, 60, 43, 45, 42, 43, 45]
theorem ops7_ok : ∀ c ∈ OPS7, OpOk c := by
  intro c hc
  simp [OPS7] at hc
  unfold OpOk
  omega
def sp_law_expression (n : Nat) : SpD := fun ds M Q _ => ∃ (s p q : Addr) (xs : List Int), ds = [.ob s, .int n] ∧ Stm s p q xs M ∧ ∀ (e : Ex) (M' : Mp), ExOk e → e.ht ≤ n + 1 → Drawn s p q xs M M' → Q e.D M'
theorem ok_law_expression1 (T : Txt w K mg A) {n kc : Nat} {spc : SpD} (hk : 2 ≤ kc) (C : FnD P w K mg base kc A.a_law_expression A.d_law_expression ["_law_stream_here", "_law_depth"] spc) (hc : ∀ m ds M Q E, n = m + 1 → sp_law_expression m ds M Q E → spc ds M Q E) :
    FnD P w K mg base (kc + 1) A.a_law_expression A.d_law_expression ["_law_stream_here", "_law_depth"] (sp_law_expression n) := by
  refine fnD_of T.f_law_expression sc_law_expression (fun ds M Q E ⟨_, _, _, _, h, _⟩ => by rw [h]; rfl) (fun cdv A0 outer s H E hr => der_law_expression T (ok_law_next T) (Nat.le_trans (by decide) hk) (ok_law_number T) hk (ok_law_variable T) hk C (Nat.le_refl _) cdv A0 outer s H E hr) ?_
  rintro ds M Q E ⟨s, p, q, xs, rfl, S, k⟩
  show w_law_expression A _ _ _ _ _ [some (.ob s), some (.int n), none, none] M
  unfold w_law_expression
  (repeat (first | walk_at "q" | simp only [QL.D.ob.injEq, exists_and_left, exists_eq_left', MO.ins.injEq, Option.some.injEq, true_and, and_true, onL_same, upm_same, upm_upm]))
  refine next_ok S (by decide) fun v M1 a1 b1 d1 => ?_
  (repeat (first | walk_at "q" | simp only [QL.D.ob.injEq, exists_and_left, exists_eq_left', MO.ins.injEq, Option.some.injEq, true_and, and_true, onL_same, upm_same, upm_upm]))
  have num : sp_law_number [.ob s] M1 (fun d M2 => endR Q (.tup [.str (tx "number"), d]) M2) (fun x M => endX E x [some (.ob s), some (.int n), some (.int v), none] M) := by
    refine ⟨s, p, q, xs, rfl, d1.2, fun m M2 hm d2 => ?_⟩
    exact ⟨M2, Sub.refl _, k (.num m) M2 hm (by show 1 ≤ n + 1; omega) (d1.trans d2)⟩
  refine ⟨rfl, rfl, ?_⟩
  refine ite2 (fun h => num) (fun h => ite2 (fun h1 => num) (fun h1 => ite2 (fun h2 => ?_) (fun h2 => ?_)))
  · refine ⟨s, p, q, xs, rfl, d1.2, fun u M2 hu d2 => ?_⟩
    exact ⟨M2, Sub.refl _, k (.var u) M2 hu (by show 1 ≤ n + 1; omega) (d1.trans d2)⟩
  · obtain ⟨m, rfl⟩ : ∃ m, n = m + 1 := ⟨n - 1, by omega⟩
    intro l hl
    have ne := d1.2.neq hl
    refine next_ok (d1.2.new hl) (by decide) fun c M2 a2 b2 d2 => ?_
    (repeat (first | walk_at "q" | simp only [QL.D.ob.injEq, exists_and_left, exists_eq_left', MO.ins.injEq, Option.some.injEq, true_and, and_true, onL_same, upm_same, upm_upm]))
    have hv : c < OPS7.length := by show c < 7; omega
    have el : M2 l = some (.lst (OPS7.map fun c => QL.D.str [c])) := d2.1 _ _ ne.1 upm_same
    refine ⟨_, el, .str [OPS7[c]], by rw [atI_cast, List.getElem?_map, List.getElem?_eq_getElem hv]; rfl, ?_⟩
    have em : (((m + 1 : Nat) : Int) - 1) = (m : Int) := by omega
    rw [em]
    refine hc m _ _ _ _ rfl ⟨s, p, q, xs, rfl, d2.2, fun e1 M3 o1 l1 d3 => ?_⟩
    refine hc m _ _ _ _ rfl ⟨s, p, q, xs, rfl, d3.2, fun e2 M4 o2 l2 d4 => ?_⟩
    refine ⟨M4, Sub.refl _, k (.bin OPS7[c] e1 e2) M4 ⟨ops7_ok _ (List.getElem_mem hv), o1, o2⟩ (by show 1 + max e1.ht e2.ht ≤ m + 1 + 1; omega) ?_⟩
    exact ⟨(((d1.1.new hl).trans d2.1).trans d3.1).trans d4.1, d4.2⟩
theorem ok_law_expression (T : Txt w K mg A) : ∀ n : Nat, FnD P w K mg base (n + 3) A.a_law_expression A.d_law_expression ["_law_stream_here", "_law_depth"] (sp_law_expression n)
  | 0 => ok_law_expression1 T (kc := 2) (Nat.le_refl _) FnD.none fun m _ _ _ _ h _ => by omega
  | n + 1 => ok_law_expression1 T (kc := n + 3) (by omega) (ok_law_expression T n) fun m ds M Q E h z => by
    obtain rfl : n = m := by omega
    exact z
end

section
variable {P : Program} {w : World} {K : PySem.W.Frag} {mg : Str → Option Value} {base : Heap} {A : Ads}
def Small (i : Int) : Prop := -1000000 ≤ i ∧ i ≤ 1000000
def opN (c : Nat) (l r : Int) : Int := if c = 43 then l + r else if c = 45 then l - r else l * r
def opV (c : Nat) (l r : Int) : Option Int :=
  if c = 61 then some (if l = r then 1 else 0) else if c = 60 then some (if l < r then 1 else 0) else
  if opN c l r < -1000000 ∨ 1000000 < opN c l r then none else some (opN c l r)
def vD : Option Int → QL.D
  | none => .non
  | some i => .int i
def getV (kvs : List (QL.D × QL.D)) (z : Tx) : Int := match QL.getD kvs z with
  | some (.int i) => i
  | _ => 0
def ev (kvs : List (QL.D × QL.D)) : Ex → Option Int
  | .num n => some n
  | .var v => some (getV kvs v)
  | .bin c a b => match ev kvs a, ev kvs b with
    | some l, some r => opV c l r
    | _, _ => none
def Vars (M : Mp) (a : Addr) (kvs : List (QL.D × QL.D)) : Prop := M a = some (.dic kvs) ∧ ∀ e ∈ kvs, ShE e
theorem opV_small {c : Nat} {l r i : Int} (h : opV c l r = some i) : Small i := by
  unfold opV at h
  unfold Small
  split at h
  · cases h; split <;> omega
  · split at h
    · cases h; split <;> omega
    · split at h
      · cases h
      · cases h; omega
theorem getD_cases {kvs : List (QL.D × QL.D)} (h : ∀ e ∈ kvs, ShE e) (z : Tx) : (QL.getD kvs z = none ∧ getV kvs z = 0) ∨ ∃ i, QL.getD kvs z = some (.int i) ∧ getV kvs z = i ∧ Small i := by
  unfold getV
  cases q : QL.getD kvs z with
  | none => exact .inl ⟨rfl, rfl⟩
  | some d =>
    unfold QL.getD at q
    obtain ⟨e, he, rfl⟩ := Option.map_eq_some_iff.mp q
    obtain ⟨y, i, rfl, _, hi⟩ := h e (List.mem_of_find?_eq_some he)
    exact .inr ⟨i, rfl, rfl, by unfold Small; omega⟩
theorem get_is {kvs : List (QL.D × QL.D)} (h : ∀ e ∈ kvs, ShE e) (z : Tx) : (QL.getD kvs z).getD (.int 0) = .int (getV kvs z) := by
  rcases getD_cases h z with ⟨a, b⟩ | ⟨i, a, b, _⟩ <;> rw [a, b] <;> rfl
theorem ev_small {kvs : List (QL.D × QL.D)} (h : ∀ e ∈ kvs, ShE e) : ∀ {e : Ex} {i : Int}, ExOk e → ev kvs e = some i → Small i
  | .num n, i, he, k => by
    have he : n ≤ 1000000 := he
    cases k; unfold Small; omega
  | .var v, i, _, k => by
    cases k
    rcases getD_cases h v with ⟨_, b⟩ | ⟨j, _, b, s⟩
    · rw [b]; unfold Small; omega
    · rw [b]; exact s
  | .bin c a b, i, _, k => by
    unfold ev at k
    split at k
    · exact opV_small k
    · cases k
def sp_operated : SpD := fun ds M Q _ => ∃ (c : Nat) (l r : Int), ds = [.str [c], .int l, .int r] ∧ OpOk c ∧ Small l ∧ Small r ∧ Q (vD (opV c l r)) M
theorem small_mul {l r : Int} (hl : Small l) (hr : Small r) : -1000000000000 ≤ l * r ∧ l * r ≤ 1000000000000 := by
  have h1 : (l * r).natAbs ≤ 1000000000000 := by
    rw [Int.natAbs_mul]
    have a : l.natAbs ≤ 1000000 := by unfold Small at hl; omega
    have b : r.natAbs ≤ 1000000 := by unfold Small at hr; omega
    exact Nat.mul_le_mul a b
  omega
theorem cmul_small {l r : Int} (hl : Small l) : CMul l r := by
  unfold Small at hl
  exact .inl ⟨by omega, by omega⟩
/-- what stands behind the operation -/
theorem op_end {c : Nat} {l r v : Int} {M : Mp} {Q : KD} (h61 : c ≠ 61) (h60 : c ≠ 60) (hv : opN c l r = v) (k : Q (vD (opV c l r)) M) : if 1000000 < (if v < 0 then -v else v) then endR Q .non M else endR Q (.int v) M := by
  unfold opV at k
  rw [if_neg h61, if_neg h60, hv] at k
  refine ite2 (fun h => ?_) (fun h => ?_)
  · rw [if_pos (by split at h <;> omega)] at k
    exact ⟨M, Sub.refl _, k⟩
  · rw [if_neg (by split at h <;> omega)] at k
    exact ⟨M, Sub.refl _, k⟩
theorem op_end2 {c : Nat} {l r v : Int} {M M' : Mp} {Q : KD} (sb : QL.Sub M M') (h61 : c ≠ 61) (h60 : c ≠ 60) (hv : opN c l r = v) (k : Q (vD (opV c l r)) M) : if v < -1000000 then endR Q .non M' else if 1000000 < v then endR Q .non M' else endR Q (.int v) M' := by
  unfold opV at k
  rw [if_neg h61, if_neg h60, hv] at k
  refine ite2 (fun h => ?_) (fun h => ite2 (fun h1 => ?_) (fun h1 => ?_))
  · rw [if_pos (.inl h)] at k
    exact ⟨M, sb, k⟩
  · rw [if_pos (.inr h1)] at k
    exact ⟨M, sb, k⟩
  · rw [if_neg (by omega)] at k
    exact ⟨M, sb, k⟩
theorem ok_operated (T : Txt w K mg A) : FnD P w K mg base 1 A.a_operated A.d_operated ["sign", "left", "right"] sp_operated := by
  refine fnD_of T.f_operated sc_operated (fun ds M Q E ⟨_, _, _, h, _⟩ => by rw [h]; rfl) (fun cdv A0 outer s H E hr => der_operated T cdv A0 outer s H E hr) ?_
  rintro ds M Q E ⟨c, l, r, rfl, hc, hl, hr, k⟩
  show w_operated A _ [some (.str [c]), some (.int l), some (.int r), none] M
  unfold w_operated
  have s1 : tx "=" = [61] := rfl
  have s2 : tx "<" = [60] := rfl
  have s3 : tx "+" = [43] := rfl
  have s4 : tx "-" = [45] := rfl
  (repeat (first | walk_at "q" | simp only [QL.D.ob.injEq, exists_and_left, exists_eq_left', MO.ins.injEq, Option.some.injEq, true_and, and_true, onL_same, upm_same, upm_upm, s1, s2, s3, s4]))
  refine ⟨rfl, rfl, ite2 (fun h => ⟨rfl, rfl, M, Sub.refl _, ?_⟩) (fun h61 => ⟨rfl, rfl, ite2 (fun h => ⟨M, Sub.refl _, ?_⟩) (fun h60 => ⟨rfl, rfl, ite2 (fun h => ?_) (fun h43 => ⟨rfl, rfl, ite2 (fun h => ?_) (fun h45 => ⟨cmul_small hl, ?_⟩)⟩)⟩)⟩)⟩
  · unfold opV at k; rw [if_pos h] at k; exact k
  · unfold opV at k; rw [if_neg h61, if_pos h] at k; exact k
  · exact op_end h61 h60 (by unfold opN; rw [if_pos h]) k
  · exact op_end h61 h60 (by unfold opN; rw [if_neg h43, if_pos h]) k
  · exact op_end h61 h60 (by unfold opN; rw [if_neg h43, if_neg h45]) k
def sp_evaluate (n : Nat) : SpD := fun ds M Q _ => ∃ (e : Ex) (a : Addr) (kvs : List (QL.D × QL.D)), ds = [e.D, .ob a] ∧ e.ht ≤ n ∧ ExOk e ∧ Vars M a kvs ∧ Q (vD (ev kvs e)) M
theorem vD_none {o : Option Int} : isNone (vD o) = o.isNone := by cases o <;> rfl
theorem ok_evaluate1 (T : Txt w K mg A) {n kc : Nat} {spc : SpD} (hk : 1 ≤ kc) (C : FnD P w K mg base kc A.a_evaluate A.d_evaluate ["expression", "variables"] spc) (hc : ∀ m ds M Q E, n = m + 1 → sp_evaluate m ds M Q E → spc ds M Q E) :
    FnD P w K mg base (kc + 1) A.a_evaluate A.d_evaluate ["expression", "variables"] (sp_evaluate n) := by
  refine fnD_of T.f_evaluate sc_evaluate (fun ds M Q E ⟨_, _, _, h, _⟩ => by rw [h]; rfl) (fun cdv A0 outer s H E hr => der_evaluate T C (Nat.le_refl _) (ok_operated T) hk cdv A0 outer s H E hr) ?_
  rintro ds M Q E ⟨e, a, kvs, rfl, hn, he, hv, k⟩
  show w_evaluate A _ _ _ [some e.D, some (.ob a), none, none] M
  unfold w_evaluate
  have sn : decide (tx "number" = tx "number") = true := by decide
  have vn : decide (tx "variable" = tx "number") = false := by decide
  have vv : decide (tx "variable" = tx "variable") = true := by decide
  cases e with
  | num m =>
    simp only [Ex.D]
    (repeat (first | walk_at "q" | simp only [QL.D.ob.injEq, exists_and_left, exists_eq_left', MO.ins.injEq, Option.some.injEq, true_and, and_true, onL_same, upm_same, upm_upm, sn]))
    exact ⟨rfl, rfl, M, Sub.refl _, k⟩
  | var v =>
    simp only [Ex.D]
    (repeat (first | walk_at "q" | simp only [QL.D.ob.injEq, exists_and_left, exists_eq_left', MO.ins.injEq, Option.some.injEq, true_and, and_true, onL_same, upm_same, upm_upm, vn, vv, onK_of hv.1, get_is hv.2]))
    exact ⟨rfl, rfl, rfl, rfl, M, Sub.refl _, k⟩
  | bin c x y =>
    have hn : 1 + max x.ht y.ht ≤ n := hn
    obtain ⟨m, rfl⟩ : ∃ m, n = m + 1 := ⟨n - 1, by omega⟩
    simp only [Ex.D]
    have t1 := tag1 c
    simp only [Bool.or_eq_false_iff, decide_eq_false_iff_not] at t1
    (repeat (first | walk_at "q" | simp only [QL.D.ob.injEq, exists_and_left, exists_eq_left', MO.ins.injEq, Option.some.injEq, true_and, and_true, onL_same, upm_same, upm_upm, t1.1, t1.2]))
    refine ⟨rfl, rfl, rfl, rfl, hc m _ _ _ _ rfl ⟨x, a, kvs, rfl, by omega, he.2.1, hv, ?_⟩⟩
    simp only [ev] at k
    cases hx : ev kvs x with
    | none =>
      rw [hx] at k
      exact ⟨M, Sub.refl _, k⟩
    | some l =>
      rw [hx] at k
      refine hc m _ _ _ _ rfl ⟨y, a, kvs, rfl, by omega, he.2.2, hv, ?_⟩
      cases hy : ev kvs y with
      | none =>
        rw [hy] at k
        exact ⟨M, Sub.refl _, k⟩
      | some r =>
        rw [hy] at k
        exact ⟨c, l, r, rfl, he.1, ev_small hv.2 he.2.1 hx, ev_small hv.2 he.2.2 hy, M, Sub.refl _, k⟩
theorem ok_evaluate (T : Txt w K mg A) : ∀ n : Nat, FnD P w K mg base (n + 2) A.a_evaluate A.d_evaluate ["expression", "variables"] (sp_evaluate n)
  | 0 => ok_evaluate1 T (kc := 1) (Nat.le_refl _) FnD.none fun m _ _ _ _ h _ => by omega
  | n + 1 => ok_evaluate1 T (kc := n + 2) (by omega) (ok_evaluate T n) fun m ds M Q E h z => by
    obtain rfl : n = m := by omega
    exact z
theorem ok_law_value1 (T : Txt w K mg A) {n kc : Nat} {spc : SpD} (C : FnD P w K mg base kc A.a_law_value A.d_law_value ["_law_expression_here", "_law_variables"] spc) (hc : ∀ m ds M Q E, n = m + 1 → sp_evaluate m ds M Q E → spc ds M Q E) :
    FnD P w K mg base (kc + 1) A.a_law_value A.d_law_value ["_law_expression_here", "_law_variables"] (sp_evaluate n) := by
  refine fnD_of T.f_law_value sc_law_value (fun ds M Q E ⟨_, _, _, h, _⟩ => by rw [h]; rfl) (fun cdv A0 outer s H E hr => der_law_value T C (Nat.le_refl _) cdv A0 outer s H E hr) ?_
  rintro ds M Q E ⟨e, a, kvs, rfl, hn, he, hv, k⟩
  show w_law_value A _ _ [some e.D, some (.ob a), none, none, none] M
  unfold w_law_value
  have sn : decide (tx "number" = tx "number") = true := by decide
  have vn : decide (tx "variable" = tx "number") = false := by decide
  have vv : decide (tx "variable" = tx "variable") = true := by decide
  have s1 : tx "=" = [61] := rfl
  have s2 : tx "<" = [60] := rfl
  have s3 : tx "+" = [43] := rfl
  have s4 : tx "-" = [45] := rfl
  cases e with
  | num m =>
    simp only [Ex.D]
    (repeat (first | walk_at "q" | simp only [QL.D.ob.injEq, exists_and_left, exists_eq_left', MO.ins.injEq, Option.some.injEq, true_and, and_true, onL_same, upm_same, upm_upm, sn]))
    exact ⟨rfl, rfl, M, Sub.refl _, k⟩
  | var v =>
    simp only [Ex.D]
    (repeat (first | walk_at "q" | simp only [QL.D.ob.injEq, exists_and_left, exists_eq_left', MO.ins.injEq, Option.some.injEq, true_and, and_true, onL_same, upm_same, upm_upm, vn, vv, onK_of hv.1, get_is hv.2]))
    exact ⟨rfl, rfl, rfl, rfl, M, Sub.refl _, k⟩
  | bin c x y =>
    have hn : 1 + max x.ht y.ht ≤ n := hn
    obtain ⟨m, rfl⟩ : ∃ m, n = m + 1 := ⟨n - 1, by omega⟩
    simp only [Ex.D]
    have t1 := tag1 c
    simp only [Bool.or_eq_false_iff, decide_eq_false_iff_not] at t1
    (repeat (first | walk_at "q" | simp only [QL.D.ob.injEq, exists_and_left, exists_eq_left', MO.ins.injEq, Option.some.injEq, true_and, and_true, onL_same, upm_same, upm_upm, t1.1, t1.2, s1, s2, s3, s4]))
    refine ⟨rfl, rfl, rfl, rfl, hc m _ _ _ _ rfl ⟨x, a, kvs, rfl, by omega, he.2.1, hv, ?_⟩⟩
    refine hc m _ _ _ _ rfl ⟨y, a, kvs, rfl, by omega, he.2.2, hv, ?_⟩
    simp only [ev] at k
    cases hx : ev kvs x with
    | none =>
      rw [hx] at k
      exact ⟨M, Sub.refl _, k⟩
    | some l =>
      rw [hx] at k
      cases hy : ev kvs y with
      | none =>
        rw [hy] at k
        exact ⟨M, Sub.refl _, k⟩
      | some r =>
        rw [hy] at k
        have k : Q (vD (opV c l r)) M := k
        have hl := ev_small hv.2 he.2.1 hx
        show if isNone (.int l) = true then _ else if isNone (.int r) = true then _ else _
        simp only [vD]
        (repeat (first | walk_at "q" | simp only [QL.D.ob.injEq, exists_and_left, exists_eq_left', MO.ins.injEq, Option.some.injEq, true_and, and_true, onL_same, upm_same, upm_upm, s1, s2, s3, s4]))
        refine ⟨rfl, rfl, ite2 (fun h => ⟨rfl, rfl, M, Sub.refl _, ?_⟩) (fun h61 => ⟨rfl, rfl, ite2 (fun h => ⟨M, Sub.refl _, ?_⟩) (fun h60 => ⟨cmul_small hl, rfl, rfl, ite2 (fun h => ?_) (fun h43 => ⟨rfl, rfl, ite2 (fun h => ?_) (fun h45 => ?_)⟩)⟩)⟩)⟩
        · unfold opV at k; rw [if_pos h] at k; exact k
        · unfold opV at k; rw [if_neg h61, if_pos h] at k; exact k
        · exact op_end2 (Sub.refl _) h61 h60 (by unfold opN; rw [if_pos h]) k
        · exact op_end2 (Sub.refl _) h61 h60 (by unfold opN; rw [if_neg h43, if_pos h]) k
        · exact op_end2 (Sub.refl _) h61 h60 (by unfold opN; rw [if_neg h43, if_neg h45]) k
theorem ok_law_value (T : Txt w K mg A) : ∀ n : Nat, FnD P w K mg base (n + 1) A.a_law_value A.d_law_value ["_law_expression_here", "_law_variables"] (sp_evaluate n)
  | 0 => ok_law_value1 T (kc := 0) FnD.none fun m _ _ _ _ h _ => by omega
  | n + 1 => ok_law_value1 T (kc := n + 1) (ok_law_value T n) fun m ds M Q E h z => by
    obtain rfl : n = m := by omega
    exact z
theorem good5 : ∀ v ∈ VARS5, GoodKey v := by
  have h : ∀ v ∈ VARS5, (∀ c ∈ (reprText ⟨v.toArray⟩).cps.toList, c < 0x110000) ∧ (reprText ⟨v.toArray⟩).length ≤ 1000 := by decide +kernel
  exact h
theorem putK_sh {kvs : List (QL.D × QL.D)} {z : Tx} {i : Int} (h : ∀ e ∈ kvs, ShE e) (hz : GoodKey z) (hi : Small i) : ∀ e ∈ putK' kvs z (.int i), ShE e := by
  have hi2 : i.natAbs ≤ 1000000 := by unfold Small at hi; omega
  intro e he
  unfold putK' at he
  split at he
  · obtain ⟨x, hx, rfl⟩ := List.mem_map.mp he
    obtain ⟨y, j, rfl, gy, hj⟩ := h x hx
    split
    · exact ⟨y, i, rfl, gy, hi2⟩
    · exact ⟨y, j, rfl, gy, hj⟩
  · rcases List.mem_append.mp he with h1 | h1
    · exact h e h1
    · rw [List.mem_singleton.mp h1]
      exact ⟨z, i, rfl, hz, hi2⟩
theorem putK_len {kvs : List (QL.D × QL.D)} {z : Tx} {d : QL.D} : (putK' kvs z d).length ≤ kvs.length + 1 := by
  unfold putK'
  split
  · rw [List.length_map]; omega
  · rw [List.length_append]; exact Nat.le_refl _
def lawLevel : Nat := 92
def sp_law : SpD := fun ds M Q _ => ∃ ns : List Int, ds = [.fl (ns.map .int)] ∧ ∀ M', Q (.bl true) M'
theorem ok_law (T : Txt w K mg A) : FnG P w K mg base lawLevel A.a_law A.d_law ["_law_script"] sp_law := by
  refine fnG_of T.f_law sc_law (fun ds M Q E ⟨_, h, _⟩ => by rw [h]; rfl) (fun cdv A0 outer s H E hr hg => der_law T (ok_law_expression T 4) (by decide) (ok_law_stream T) (by decide) (ok_law_cell T) (by decide) (ok_law_same T 10) (by decide) (ok_law_value T 5) (by decide) (ok_evaluate T 5) (by decide) cdv A0 outer s H E hr hg) ?_
  rintro ds M Q E ⟨ns, rfl, k⟩
  show w_law A _ _ _ _ _ _ _ [some (.fl (ns.map .int)), none, none, none, none, none] M
  unfold w_law
  (repeat (first | walk_at "q" | simp only [QL.D.ob.injEq, exists_and_left, exists_eq_left', MO.ins.injEq, Option.some.injEq, true_and, and_true, onL_same, upm_same, upm_upm]))
  refine ⟨ns, 0, 24, rfl, by decide, by decide, fun s p q xs M1 _ _ _ _ S => ?_⟩
  (repeat (first | walk_at "q" | simp only [QL.D.ob.injEq, exists_and_left, exists_eq_left', MO.ins.injEq, Option.some.injEq, true_and, and_true, onL_same, upm_same, upm_upm]))
  refine ⟨s, p, q, xs, rfl, S, fun e M2 he h5 d2 => ?_⟩
  (repeat (first | walk_at "q" | simp only [QL.D.ob.injEq, exists_and_left, exists_eq_left', MO.ins.injEq, Option.some.injEq, true_and, and_true, onL_same, upm_same, upm_upm]))
  intro a ha
  refine ⟨by decide, ?_⟩
  obtain ⟨I, hI⟩ : ∃ I : Nat → QL.Env → Mp → Prop, I = fun i δ M' => ∃ (x y : Option QL.D) (kvs : List (QL.D × QL.D)), δ = [some (.fl (ns.map .int)), some e.D, some (.ob a), x, y, none] ∧ Vars M' a kvs ∧ kvs.length ≤ i := ⟨_, rfl⟩
  refine for_rng I ?_ ?_ ?_
  · rw [hI]; exact ⟨none, none, [], rfl, ⟨upm_same, fun _ z => by cases z⟩, Nat.le_refl _⟩
  · intro i δ M' hi h
    rw [hI] at h
    obtain ⟨x, y, kvs, rfl, hv, hl⟩ := h
    have hi : i < 5 := by simpa using hi
    rw [Int.zero_add]
    (repeat (first | walk_at "q" | simp only [QL.D.ob.injEq, exists_and_left, exists_eq_left', MO.ins.injEq, Option.some.injEq, true_and, and_true, onL_same, upm_same, upm_upm]))
    have ei : (30 : Int) + (i : Int) = ((30 + i : Nat) : Int) := by omega
    refine ⟨ns, 30 + i, by rw [ei], ?_⟩
    have put : ∀ (z : Tx) (j : Int) (M3 : Mp) (x y : Option QL.D), z ∈ VARS5 → Small j → M3 a = some (.dic kvs) → onK M3 a fun kvs => kvs.length < sizeLine ∧ I (i + 1) [some (.fl (ns.map .int)), some e.D, some (.ob a), x, y, none] (upm M3 a (.dic (putK' kvs z (.int j)))) := by
      intro z j M3 x y hz hj em
      rw [onK_of em]
      refine ⟨by rw [sizeLine_eq]; omega, ?_⟩
      rw [hI]
      exact ⟨x, y, _, rfl, ⟨upm_same, putK_sh hv.2 (good5 z hz) hj⟩, by have := putK_len (kvs := kvs) (z := z) (d := .int j); omega⟩
    (repeat (first | walk_at "q" | simp only [QL.D.ob.injEq, exists_and_left, exists_eq_left', MO.ins.injEq, Option.some.injEq, true_and, and_true, onL_same, upm_same, upm_upm]))
    have lit : ∀ (j : Int) (x y : Option QL.D), Small j → ∀ p : Addr, M' p = none → ∃ v, atI [QL.D.str (tx "n"), QL.D.str (tx "i"), QL.D.str (tx "x"), QL.D.str (tx "total"), QL.D.str (tx "q")] (i : Int) = some v ∧ ∃ z, v = .str z ∧
        onK (upm M' p (.lst [QL.D.str (tx "n"), QL.D.str (tx "i"), QL.D.str (tx "x"), QL.D.str (tx "total"), QL.D.str (tx "q")])) a fun kvs => kvs.length < sizeLine ∧ I (i + 1) [some (.fl (ns.map .int)), some e.D, some (.ob a), x, y, none] (upm (upm M' p (.lst [QL.D.str (tx "n"), QL.D.str (tx "i"), QL.D.str (tx "x"), QL.D.str (tx "total"), QL.D.str (tx "q")])) a (.dic (putK' kvs z (.int j)))) := by
      intro j x y hj p hp
      have hv5 : i < VARS5.length := by show i < 5; omega
      have e5 : [QL.D.str (tx "n"), QL.D.str (tx "i"), QL.D.str (tx "x"), QL.D.str (tx "total"), QL.D.str (tx "q")] = VARS5.map QL.D.str := rfl
      refine ⟨.str VARS5[i], by rw [e5, atI_cast, List.getElem?_map, List.getElem?_eq_getElem hv5]; rfl, VARS5[i], rfl, put _ _ _ _ _ (List.getElem_mem hv5) hj ?_⟩
      rw [upm_ne (mne hv.1 hp)]; exact hv.1
    refine ⟨by decide, rfl, rfl, ite2 (fun h => ⟨⟨by decide, by decide⟩, by decide, lit _ _ _ ?_⟩) (fun h => ⟨by decide, rfl, rfl, ite2 (fun h => ⟨⟨by decide, by decide⟩, by decide, lit _ _ _ ?_⟩) (fun h => ?_)⟩)⟩
    · unfold Small; omega
    · unfold Small; omega
    · rw [hI]; exact ⟨_, _, kvs, rfl, hv, by omega⟩
  · intro δ M' h
    rw [hI] at h
    obtain ⟨x, y, kvs, rfl, hv, hl⟩ := h
    have hl : kvs.length ≤ 5 := hl
    (repeat (first | walk_at "q" | simp only [QL.D.ob.injEq, exists_and_left, exists_eq_left', MO.ins.injEq, Option.some.injEq, true_and, and_true, onL_same, upm_same, upm_upm, onK_of hv.1]))
    refine ⟨by omega, hv.2, e, a, kvs, rfl, h5, he, hv, e, a, kvs, rfl, h5, he, hv, ?_⟩
    refine ⟨?_, .inl ⟨_, rfl, ?_, ?_, by decide⟩⟩
    · (repeat (first | walk_at "q" | simp only [QL.D.ob.injEq, exists_and_left, exists_eq_left', MO.ins.injEq, Option.some.injEq, true_and, and_true, onL_same, upm_same, upm_upm, onK_of hv.1]))
      exact ⟨by omega, hv.2, rfl, rfl, M', Sub.refl _, by simpa using k M'⟩
    · cases ev kvs e <;> rfl
    · cases ev kvs e <;> rfl
theorem law_room : Room lawLevel callerA := ⟨rfl, by decide, by decide⟩
theorem law_good (ns : List Int) (_ : ns.length ≤ 63) : sp_law [.fl (ns.map D.int)] (fun _ => none) (fun d _ => d = .bl true) (fun _ _ => False) := ⟨ns, rfl, fun _ => rfl⟩
end

theorem all_mk {w : World} {K : PySem.W.Frag} {h : Heap} {mg : Str → Option Value} {fa : Addr} (X : K.In h) (G : h.Ns mainGlobals mg) (hfa : mg "law" = some (.ref fa))
    {od_operated an_operated : Option Addr} {sl_operated : Array (Option Value)} {oc_operated kV_operated dc_operated pm_operated cd_operated ct_operated : Value} {aa_operated : Addr}
    {od_evaluate an_evaluate : Option Addr} {sl_evaluate : Array (Option Value)} {oc_evaluate kV_evaluate dc_evaluate pm_evaluate cd_evaluate ct_evaluate : Value} {aa_evaluate : Addr}
    {od_law_cell an_law_cell : Option Addr} {sl_law_cell : Array (Option Value)} {oc_law_cell kV_law_cell dc_law_cell pm_law_cell cd_law_cell ct_law_cell : Value} {aa_law_cell : Addr}
    {od_law_draws an_law_draws : Option Addr} {sl_law_draws : Array (Option Value)} {oc_law_draws kV_law_draws dc_law_draws pm_law_draws cd_law_draws ct_law_draws : Value} {aa_law_draws : Addr}
    {od_law_stream an_law_stream : Option Addr} {sl_law_stream : Array (Option Value)} {oc_law_stream kV_law_stream dc_law_stream pm_law_stream cd_law_stream ct_law_stream : Value} {aa_law_stream : Addr}
    {od_law_next an_law_next : Option Addr} {sl_law_next : Array (Option Value)} {oc_law_next kV_law_next dc_law_next pm_law_next cd_law_next ct_law_next : Value} {aa_law_next : Addr}
    {od_law_variable an_law_variable : Option Addr} {sl_law_variable : Array (Option Value)} {oc_law_variable kV_law_variable dc_law_variable pm_law_variable cd_law_variable ct_law_variable : Value} {aa_law_variable : Addr}
    {od_law_number an_law_number : Option Addr} {sl_law_number : Array (Option Value)} {oc_law_number kV_law_number dc_law_number pm_law_number cd_law_number ct_law_number : Value} {aa_law_number : Addr}
    {od_law_expression an_law_expression : Option Addr} {sl_law_expression : Array (Option Value)} {oc_law_expression kV_law_expression dc_law_expression pm_law_expression cd_law_expression ct_law_expression : Value} {aa_law_expression : Addr}
    {od_law_is_integer an_law_is_integer : Option Addr} {sl_law_is_integer : Array (Option Value)} {oc_law_is_integer kV_law_is_integer dc_law_is_integer pm_law_is_integer cd_law_is_integer ct_law_is_integer : Value} {aa_law_is_integer : Addr}
    {od_law_same an_law_same : Option Addr} {sl_law_same : Array (Option Value)} {oc_law_same kV_law_same dc_law_same pm_law_same cd_law_same ct_law_same : Value} {aa_law_same : Addr}
    {od_law_value an_law_value : Option Addr} {sl_law_value : Array (Option Value)} {oc_law_value kV_law_value dc_law_value pm_law_value cd_law_value ct_law_value : Value} {aa_law_value : Addr}
    {od_law an_law : Option Addr} {sl_law : Array (Option Value)} {oc_law kV_law dc_law pm_law cd_law ct_law : Value} {aa_law : Addr}
    {tt_MOST_VALUE : Tok}
    (a_operated : PySem.W.nsIn K mainGlobals "operated" = some (some (.ref aa_operated)))
    (l_operated : K.lookup aa_operated = some ⟨oc_operated, od_operated, .func (PySem.W.fnOf "operated" "operated" (defArgs s_operated) (defBody s_operated) (defScope s_operated) .none kV_operated dc_operated pm_operated an_operated cd_operated ct_operated), sl_operated⟩)
    (q_operated : PySem.W.codeIn K cd_operated "operated" = true)
    (k_operated : PySem.W.keepIn K (.ref aa_operated) = true)
    (a_evaluate : PySem.W.nsIn K mainGlobals "evaluate" = some (some (.ref aa_evaluate)))
    (l_evaluate : K.lookup aa_evaluate = some ⟨oc_evaluate, od_evaluate, .func (PySem.W.fnOf "evaluate" "evaluate" (defArgs s_evaluate) (defBody s_evaluate) (defScope s_evaluate) .none kV_evaluate dc_evaluate pm_evaluate an_evaluate cd_evaluate ct_evaluate), sl_evaluate⟩)
    (q_evaluate : PySem.W.codeIn K cd_evaluate "evaluate" = true)
    (k_evaluate : PySem.W.keepIn K (.ref aa_evaluate) = true)
    (a_law_cell : PySem.W.nsIn K mainGlobals "_law_cell" = some (some (.ref aa_law_cell)))
    (l_law_cell : K.lookup aa_law_cell = some ⟨oc_law_cell, od_law_cell, .func (PySem.W.fnOf "_law_cell" "_law_cell" (defArgs s_law_cell) (defBody s_law_cell) (defScope s_law_cell) .none kV_law_cell dc_law_cell pm_law_cell an_law_cell cd_law_cell ct_law_cell), sl_law_cell⟩)
    (q_law_cell : PySem.W.codeIn K cd_law_cell "_law_cell" = true)
    (k_law_cell : PySem.W.keepIn K (.ref aa_law_cell) = true)
    (a_law_draws : PySem.W.nsIn K mainGlobals "_law_draws" = some (some (.ref aa_law_draws)))
    (l_law_draws : K.lookup aa_law_draws = some ⟨oc_law_draws, od_law_draws, .func (PySem.W.fnOf "_law_draws" "_law_draws" (defArgs s_law_draws) (defBody s_law_draws) (defScope s_law_draws) .none kV_law_draws dc_law_draws pm_law_draws an_law_draws cd_law_draws ct_law_draws), sl_law_draws⟩)
    (q_law_draws : PySem.W.codeIn K cd_law_draws "_law_draws" = true)
    (k_law_draws : PySem.W.keepIn K (.ref aa_law_draws) = true)
    (a_law_stream : PySem.W.nsIn K mainGlobals "_law_stream" = some (some (.ref aa_law_stream)))
    (l_law_stream : K.lookup aa_law_stream = some ⟨oc_law_stream, od_law_stream, .func (PySem.W.fnOf "_law_stream" "_law_stream" (defArgs s_law_stream) (defBody s_law_stream) (defScope s_law_stream) .none kV_law_stream dc_law_stream pm_law_stream an_law_stream cd_law_stream ct_law_stream), sl_law_stream⟩)
    (q_law_stream : PySem.W.codeIn K cd_law_stream "_law_stream" = true)
    (k_law_stream : PySem.W.keepIn K (.ref aa_law_stream) = true)
    (a_law_next : PySem.W.nsIn K mainGlobals "_law_next" = some (some (.ref aa_law_next)))
    (l_law_next : K.lookup aa_law_next = some ⟨oc_law_next, od_law_next, .func (PySem.W.fnOf "_law_next" "_law_next" (defArgs s_law_next) (defBody s_law_next) (defScope s_law_next) .none kV_law_next dc_law_next pm_law_next an_law_next cd_law_next ct_law_next), sl_law_next⟩)
    (q_law_next : PySem.W.codeIn K cd_law_next "_law_next" = true)
    (k_law_next : PySem.W.keepIn K (.ref aa_law_next) = true)
    (a_law_variable : PySem.W.nsIn K mainGlobals "_law_variable" = some (some (.ref aa_law_variable)))
    (l_law_variable : K.lookup aa_law_variable = some ⟨oc_law_variable, od_law_variable, .func (PySem.W.fnOf "_law_variable" "_law_variable" (defArgs s_law_variable) (defBody s_law_variable) (defScope s_law_variable) .none kV_law_variable dc_law_variable pm_law_variable an_law_variable cd_law_variable ct_law_variable), sl_law_variable⟩)
    (q_law_variable : PySem.W.codeIn K cd_law_variable "_law_variable" = true)
    (k_law_variable : PySem.W.keepIn K (.ref aa_law_variable) = true)
    (a_law_number : PySem.W.nsIn K mainGlobals "_law_number" = some (some (.ref aa_law_number)))
    (l_law_number : K.lookup aa_law_number = some ⟨oc_law_number, od_law_number, .func (PySem.W.fnOf "_law_number" "_law_number" (defArgs s_law_number) (defBody s_law_number) (defScope s_law_number) .none kV_law_number dc_law_number pm_law_number an_law_number cd_law_number ct_law_number), sl_law_number⟩)
    (q_law_number : PySem.W.codeIn K cd_law_number "_law_number" = true)
    (k_law_number : PySem.W.keepIn K (.ref aa_law_number) = true)
    (a_law_expression : PySem.W.nsIn K mainGlobals "_law_expression" = some (some (.ref aa_law_expression)))
    (l_law_expression : K.lookup aa_law_expression = some ⟨oc_law_expression, od_law_expression, .func (PySem.W.fnOf "_law_expression" "_law_expression" (defArgs s_law_expression) (defBody s_law_expression) (defScope s_law_expression) .none kV_law_expression dc_law_expression pm_law_expression an_law_expression cd_law_expression ct_law_expression), sl_law_expression⟩)
    (q_law_expression : PySem.W.codeIn K cd_law_expression "_law_expression" = true)
    (k_law_expression : PySem.W.keepIn K (.ref aa_law_expression) = true)
    (a_law_is_integer : PySem.W.nsIn K mainGlobals "_law_is_integer" = some (some (.ref aa_law_is_integer)))
    (l_law_is_integer : K.lookup aa_law_is_integer = some ⟨oc_law_is_integer, od_law_is_integer, .func (PySem.W.fnOf "_law_is_integer" "_law_is_integer" (defArgs s_law_is_integer) (defBody s_law_is_integer) (defScope s_law_is_integer) .none kV_law_is_integer dc_law_is_integer pm_law_is_integer an_law_is_integer cd_law_is_integer ct_law_is_integer), sl_law_is_integer⟩)
    (q_law_is_integer : PySem.W.codeIn K cd_law_is_integer "_law_is_integer" = true)
    (k_law_is_integer : PySem.W.keepIn K (.ref aa_law_is_integer) = true)
    (a_law_same : PySem.W.nsIn K mainGlobals "_law_same" = some (some (.ref aa_law_same)))
    (l_law_same : K.lookup aa_law_same = some ⟨oc_law_same, od_law_same, .func (PySem.W.fnOf "_law_same" "_law_same" (defArgs s_law_same) (defBody s_law_same) (defScope s_law_same) .none kV_law_same dc_law_same pm_law_same an_law_same cd_law_same ct_law_same), sl_law_same⟩)
    (q_law_same : PySem.W.codeIn K cd_law_same "_law_same" = true)
    (k_law_same : PySem.W.keepIn K (.ref aa_law_same) = true)
    (a_law_value : PySem.W.nsIn K mainGlobals "_law_value" = some (some (.ref aa_law_value)))
    (l_law_value : K.lookup aa_law_value = some ⟨oc_law_value, od_law_value, .func (PySem.W.fnOf "_law_value" "_law_value" (defArgs s_law_value) (defBody s_law_value) (defScope s_law_value) .none kV_law_value dc_law_value pm_law_value an_law_value cd_law_value ct_law_value), sl_law_value⟩)
    (q_law_value : PySem.W.codeIn K cd_law_value "_law_value" = true)
    (k_law_value : PySem.W.keepIn K (.ref aa_law_value) = true)
    (a_law : PySem.W.nsIn K mainGlobals "law" = some (some (.ref aa_law)))
    (l_law : K.lookup aa_law = some ⟨oc_law, od_law, .func (PySem.W.fnOf "law" "law" (defArgs s_law) (defBody s_law) (defScope s_law) .none kV_law dc_law pm_law an_law cd_law ct_law), sl_law⟩)
    (q_law : PySem.W.codeIn K cd_law "law" = true)
    (k_law : PySem.W.keepIn K (.ref aa_law) = true)
    (g_MOST_VALUE : PySem.W.nsIn K mainGlobals "MOST_VALUE" = some (some (.int 1000000 tt_MOST_VALUE)))
    (z_abs : PySem.W.nsIn K mainGlobals "abs" = some none)
    (z_bool : PySem.W.nsIn K mainGlobals "bool" = some none)
    (z_int : PySem.W.nsIn K mainGlobals "int" = some none)
    (z_isinstance : PySem.W.nsIn K mainGlobals "isinstance" = some none)
    (z_len : PySem.W.nsIn K mainGlobals "len" = some none)
    (z_list : PySem.W.nsIn K mainGlobals "list" = some none)
    (z_range : PySem.W.nsIn K mainGlobals "range" = some none)
    (z_repr : PySem.W.nsIn K mainGlobals "repr" = some none)
    (z_str : PySem.W.nsIn K mainGlobals "str" = some none)
    (z_tuple : PySem.W.nsIn K mainGlobals "tuple" = some none) :
    ∃ fd : FuncData, (∀ (s : Shared) (v : Value), BindsTo s fd ⟨[v], []⟩ [("_law_script", v)]) ∧ ∀ base : Heap, K.In base → base.Ns mainGlobals mg → FnG PySem.Challenge.pw_restruct_k04_values w K mg base lawLevel fa fd ["_law_script"] sp_law := by
  have e : fa = aa_law := by have e := hfa.symm.trans (PySem.W.mg_of X G a_law); cases e; rfl
  rw [e]
  have F_operated := fun_mk (st := s_operated) l_operated q_operated k_operated
  have F_evaluate := fun_mk (st := s_evaluate) l_evaluate q_evaluate k_evaluate
  have F_law_cell := fun_mk (st := s_law_cell) l_law_cell q_law_cell k_law_cell
  have F_law_draws := fun_mk (st := s_law_draws) l_law_draws q_law_draws k_law_draws
  have F_law_stream := fun_mk (st := s_law_stream) l_law_stream q_law_stream k_law_stream
  have F_law_next := fun_mk (st := s_law_next) l_law_next q_law_next k_law_next
  have F_law_variable := fun_mk (st := s_law_variable) l_law_variable q_law_variable k_law_variable
  have F_law_number := fun_mk (st := s_law_number) l_law_number q_law_number k_law_number
  have F_law_expression := fun_mk (st := s_law_expression) l_law_expression q_law_expression k_law_expression
  have F_law_is_integer := fun_mk (st := s_law_is_integer) l_law_is_integer q_law_is_integer k_law_is_integer
  have F_law_same := fun_mk (st := s_law_same) l_law_same q_law_same k_law_same
  have F_law_value := fun_mk (st := s_law_value) l_law_value q_law_value k_law_value
  have F_law := fun_mk (st := s_law) l_law q_law k_law
  have T : Txt w K mg { a_operated := aa_operated, d_operated := PySem.W.fnOf "operated" "operated" (defArgs s_operated) (defBody s_operated) (defScope s_operated) .none kV_operated dc_operated pm_operated an_operated cd_operated ct_operated, a_evaluate := aa_evaluate, d_evaluate := PySem.W.fnOf "evaluate" "evaluate" (defArgs s_evaluate) (defBody s_evaluate) (defScope s_evaluate) .none kV_evaluate dc_evaluate pm_evaluate an_evaluate cd_evaluate ct_evaluate, a_law_cell := aa_law_cell, d_law_cell := PySem.W.fnOf "_law_cell" "_law_cell" (defArgs s_law_cell) (defBody s_law_cell) (defScope s_law_cell) .none kV_law_cell dc_law_cell pm_law_cell an_law_cell cd_law_cell ct_law_cell, a_law_draws := aa_law_draws, d_law_draws := PySem.W.fnOf "_law_draws" "_law_draws" (defArgs s_law_draws) (defBody s_law_draws) (defScope s_law_draws) .none kV_law_draws dc_law_draws pm_law_draws an_law_draws cd_law_draws ct_law_draws, a_law_stream := aa_law_stream, d_law_stream := PySem.W.fnOf "_law_stream" "_law_stream" (defArgs s_law_stream) (defBody s_law_stream) (defScope s_law_stream) .none kV_law_stream dc_law_stream pm_law_stream an_law_stream cd_law_stream ct_law_stream, a_law_next := aa_law_next, d_law_next := PySem.W.fnOf "_law_next" "_law_next" (defArgs s_law_next) (defBody s_law_next) (defScope s_law_next) .none kV_law_next dc_law_next pm_law_next an_law_next cd_law_next ct_law_next, a_law_variable := aa_law_variable, d_law_variable := PySem.W.fnOf "_law_variable" "_law_variable" (defArgs s_law_variable) (defBody s_law_variable) (defScope s_law_variable) .none kV_law_variable dc_law_variable pm_law_variable an_law_variable cd_law_variable ct_law_variable, a_law_number := aa_law_number, d_law_number := PySem.W.fnOf "_law_number" "_law_number" (defArgs s_law_number) (defBody s_law_number) (defScope s_law_number) .none kV_law_number dc_law_number pm_law_number an_law_number cd_law_number ct_law_number, a_law_expression := aa_law_expression, d_law_expression := PySem.W.fnOf "_law_expression" "_law_expression" (defArgs s_law_expression) (defBody s_law_expression) (defScope s_law_expression) .none kV_law_expression dc_law_expression pm_law_expression an_law_expression cd_law_expression ct_law_expression, a_law_is_integer := aa_law_is_integer, d_law_is_integer := PySem.W.fnOf "_law_is_integer" "_law_is_integer" (defArgs s_law_is_integer) (defBody s_law_is_integer) (defScope s_law_is_integer) .none kV_law_is_integer dc_law_is_integer pm_law_is_integer an_law_is_integer cd_law_is_integer ct_law_is_integer, a_law_same := aa_law_same, d_law_same := PySem.W.fnOf "_law_same" "_law_same" (defArgs s_law_same) (defBody s_law_same) (defScope s_law_same) .none kV_law_same dc_law_same pm_law_same an_law_same cd_law_same ct_law_same, a_law_value := aa_law_value, d_law_value := PySem.W.fnOf "_law_value" "_law_value" (defArgs s_law_value) (defBody s_law_value) (defScope s_law_value) .none kV_law_value dc_law_value pm_law_value an_law_value cd_law_value ct_law_value, a_law := aa_law, d_law := PySem.W.fnOf "law" "law" (defArgs s_law) (defBody s_law) (defScope s_law) .none kV_law dc_law pm_law an_law cd_law ct_law, t_MOST_VALUE := tt_MOST_VALUE } := {
    f_operated := F_operated
    b_operated := F_operated.binds (ps := ["sign", "left", "right"]) fun _ _ _ _ _ _ us hl => match us, hl with | [_, _, _], _ => rfl
    m_operated := PySem.W.mg_of X G a_operated
    f_evaluate := F_evaluate
    b_evaluate := F_evaluate.binds (ps := ["expression", "variables"]) fun _ _ _ _ _ _ us hl => match us, hl with | [_, _], _ => rfl
    m_evaluate := PySem.W.mg_of X G a_evaluate
    f_law_cell := F_law_cell
    b_law_cell := F_law_cell.binds (ps := ["_law_script", "_law_k"]) fun _ _ _ _ _ _ us hl => match us, hl with | [_, _], _ => rfl
    m_law_cell := PySem.W.mg_of X G a_law_cell
    f_law_draws := F_law_draws
    b_law_draws := F_law_draws.binds (ps := ["_law_cell_here", "_law_count"]) fun _ _ _ _ _ _ us hl => match us, hl with | [_, _], _ => rfl
    m_law_draws := PySem.W.mg_of X G a_law_draws
    f_law_stream := F_law_stream
    b_law_stream := F_law_stream.binds (ps := ["_law_script", "_law_first", "_law_count"]) fun _ _ _ _ _ _ us hl => match us, hl with | [_, _, _], _ => rfl
    m_law_stream := PySem.W.mg_of X G a_law_stream
    f_law_next := F_law_next
    b_law_next := F_law_next.binds (ps := ["_law_stream_here", "_law_many"]) fun _ _ _ _ _ _ us hl => match us, hl with | [_, _], _ => rfl
    m_law_next := PySem.W.mg_of X G a_law_next
    f_law_variable := F_law_variable
    b_law_variable := F_law_variable.binds (ps := ["_law_stream_here"]) fun _ _ _ _ _ _ us hl => match us, hl with | [_], _ => rfl
    m_law_variable := PySem.W.mg_of X G a_law_variable
    f_law_number := F_law_number
    b_law_number := F_law_number.binds (ps := ["_law_stream_here"]) fun _ _ _ _ _ _ us hl => match us, hl with | [_], _ => rfl
    m_law_number := PySem.W.mg_of X G a_law_number
    f_law_expression := F_law_expression
    b_law_expression := F_law_expression.binds (ps := ["_law_stream_here", "_law_depth"]) fun _ _ _ _ _ _ us hl => match us, hl with | [_, _], _ => rfl
    m_law_expression := PySem.W.mg_of X G a_law_expression
    f_law_is_integer := F_law_is_integer
    b_law_is_integer := F_law_is_integer.binds (ps := ["_law_actual"]) fun _ _ _ _ _ _ us hl => match us, hl with | [_], _ => rfl
    m_law_is_integer := PySem.W.mg_of X G a_law_is_integer
    f_law_same := F_law_same
    b_law_same := F_law_same.binds (ps := ["_law_actual", "_law_expected"]) fun _ _ _ _ _ _ us hl => match us, hl with | [_, _], _ => rfl
    m_law_same := PySem.W.mg_of X G a_law_same
    f_law_value := F_law_value
    b_law_value := F_law_value.binds (ps := ["_law_expression_here", "_law_variables"]) fun _ _ _ _ _ _ us hl => match us, hl with | [_, _], _ => rfl
    m_law_value := PySem.W.mg_of X G a_law_value
    f_law := F_law
    b_law := F_law.binds (ps := ["_law_script"]) fun _ _ _ _ _ _ us hl => match us, hl with | [_], _ => rfl
    m_law := PySem.W.mg_of X G a_law
    k_MOST_VALUE := PySem.W.mg_of X G g_MOST_VALUE
    z_abs := PySem.W.mg_none_of X G z_abs
    z_bool := PySem.W.mg_none_of X G z_bool
    z_int := PySem.W.mg_none_of X G z_int
    z_isinstance := PySem.W.mg_none_of X G z_isinstance
    z_len := PySem.W.mg_none_of X G z_len
    z_list := PySem.W.mg_none_of X G z_list
    z_range := PySem.W.mg_none_of X G z_range
    z_repr := PySem.W.mg_none_of X G z_repr
    z_str := PySem.W.mg_none_of X G z_str
    z_tuple := PySem.W.mg_none_of X G z_tuple }
  exact ⟨_, fun s v => .of_eq rfl, fun base _ _ => ok_law T⟩
end L04

open PySem PySem.W PyProof.Rows in
set_option maxRecDepth 100000 in
set_option maxHeartbeats 0 in
theorem PySem.Challenge.cw_restruct_k04_values_holds : PySem.Challenge.rw_restruct_k04_values.Holds := by
  w_on; o_law; k_head; (case hw => w_witness2)
  k_fill
  refine QL.walkG (l := PySem.Challenge.rw_restruct_k04_values) (k := L04.lawLevel) (sp := L04.sp_law) rfl rfl L04.law_room (fun w h Y => PySem.W.kIn_of Y) ?F L04.law_good
  case F =>
    intro w mg fa h KX G hmg
    refine' L04.all_mk KX G hmg ?a_operated ?l_operated ?q_operated ?k_operated ?a_evaluate ?l_evaluate ?q_evaluate ?k_evaluate ?a_law_cell ?l_law_cell ?q_law_cell ?k_law_cell ?a_law_draws ?l_law_draws ?q_law_draws ?k_law_draws ?a_law_stream ?l_law_stream ?q_law_stream ?k_law_stream ?a_law_next ?l_law_next ?q_law_next ?k_law_next ?a_law_variable ?l_law_variable ?q_law_variable ?k_law_variable ?a_law_number ?l_law_number ?q_law_number ?k_law_number ?a_law_expression ?l_law_expression ?q_law_expression ?k_law_expression ?a_law_is_integer ?l_law_is_integer ?q_law_is_integer ?k_law_is_integer ?a_law_same ?l_law_same ?q_law_same ?k_law_same ?a_law_value ?l_law_value ?q_law_value ?k_law_value ?a_law ?l_law ?q_law ?k_law ?g_MOST_VALUE ?z_abs ?z_bool ?z_int ?z_isinstance ?z_len ?z_list ?z_range ?z_repr ?z_str ?z_tuple
    (case a_operated => k_is)
    (case l_operated => k_is)
    (case q_operated => k_is)
    (case k_operated => k_is)
    (case a_evaluate => k_is)
    (case l_evaluate => k_is)
    (case q_evaluate => k_is)
    (case k_evaluate => k_is)
    (case a_law_cell => k_is)
    (case l_law_cell => k_is)
    (case q_law_cell => k_is)
    (case k_law_cell => k_is)
    (case a_law_draws => k_is)
    (case l_law_draws => k_is)
    (case q_law_draws => k_is)
    (case k_law_draws => k_is)
    (case a_law_stream => k_is)
    (case l_law_stream => k_is)
    (case q_law_stream => k_is)
    (case k_law_stream => k_is)
    (case a_law_next => k_is)
    (case l_law_next => k_is)
    (case q_law_next => k_is)
    (case k_law_next => k_is)
    (case a_law_variable => k_is)
    (case l_law_variable => k_is)
    (case q_law_variable => k_is)
    (case k_law_variable => k_is)
    (case a_law_number => k_is)
    (case l_law_number => k_is)
    (case q_law_number => k_is)
    (case k_law_number => k_is)
    (case a_law_expression => k_is)
    (case l_law_expression => k_is)
    (case q_law_expression => k_is)
    (case k_law_expression => k_is)
    (case a_law_is_integer => k_is)
    (case l_law_is_integer => k_is)
    (case q_law_is_integer => k_is)
    (case k_law_is_integer => k_is)
    (case a_law_same => k_is)
    (case l_law_same => k_is)
    (case q_law_same => k_is)
    (case k_law_same => k_is)
    (case a_law_value => k_is)
    (case l_law_value => k_is)
    (case q_law_value => k_is)
    (case k_law_value => k_is)
    (case a_law => k_is)
    (case l_law => k_is)
    (case q_law => k_is)
    (case k_law => k_is)
    (case g_MOST_VALUE => k_is)
    (case z_abs => k_is)
    (case z_bool => k_is)
    (case z_int => k_is)
    (case z_isinstance => k_is)
    (case z_len => k_is)
    (case z_list => k_is)
    (case z_range => k_is)
    (case z_repr => k_is)
    (case z_str => k_is)
    (case z_tuple => k_is)

