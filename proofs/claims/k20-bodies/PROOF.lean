import PyProof.Rows.All
import Wide.All
import OpenK.AllK
import Wide.FinOn
import HandS.ForMost
import HandS.ForExc
import HandS.TupAny
import HandS.Flow
import HandS.RaiseMore
import HandS.IsInst
import HandS.CallSlots
import HandS.Walk
import PyProof.StrOps2
import HandS.ExcIs
import HandS.ExcField
import HandS.FStr
import HandS.HeadHook3
import KE.IntTextLaws
import KE.KIntText
import HandS.FStrTup
import HandS.Iter
import HandS.Dict
import HandS.WordsDict
import PyProof.ReprDict
import HandS.Text
import HandS.StrMore
import HandS.StrSplit
import HandS.Rev
import HandS.DictComp
import HandS.Exc
import OpenK.KCls
import OpenK.KDescr
import OpenK.KOps
import OpenK.KMeth
import HandS.Comp
import PyProof.AutoSeq1
import KE.RegKIsAll
import HandS.Conv
import PySem.Challenge.RW_restruct_k20_bodies_read
set_option Elab.async false
set_option linter.all false
set_option maxRecDepth 100000
set_option maxHeartbeats 4000000
namespace QL
open PySem PySem.Spec PyProof.Rows L2
/-! ### data without addresses: all that never changes is a value -/
inductive D where
  | non | bl (b : Bool) | int (i : Int) | str (s : List Nat) | tup (xs : List D) | fl (xs : List D) | ob (a : Addr) | ty (n : String) | any
abbrev Tx := List Nat
def tx (s : String) : Tx := s.toList.map Char.toNat
/-- signs that may stand in a text -/
def okc (s : Tx) : Prop := ∀ c ∈ s, c < 0x110000
theorem okc_tx (s : String) : okc (tx s) := fun c hc => by
  unfold tx at hc
  obtain ⟨x, _, rfl⟩ := List.mem_map.mp hc
  have h := x.valid
  have e : x.toNat = x.val.toNat := rfl
  rw [e]
  simp only [UInt32.isValidChar, Nat.isValidChar] at h
  omega
theorem okc_nil : okc [] := fun c h => by cases h
theorem okc_append {a b : Tx} (h : okc a) (k : okc b) : okc (a ++ b) := fun c hc => (List.mem_append.mp hc).elim (h c) (k c)
theorem okc_sub {a b : Tx} (h : okc b) (k : ∀ c ∈ a, c ∈ b) : okc a := fun c hc => h c (k c hc)
/-- what stays for ever: tuples, locked lists and tuples -/
def Perm : HO → Prop
  | .tup _ => True
  | .frz _ (.lst _) => True
  | .frz _ (.tup _) => True
  | .frz _ (.dK _) => True
  | _ => False
def TK (H H' : Hp) : Prop := ∀ a u, H a = some u → Perm u → H' a = some u
theorem TK.refl (H : Hp) : TK H H := fun _ _ h _ => h
theorem TK.trans {H H1 H2 : Hp} (a : TK H H1) (b : TK H1 H2) : TK H H2 := fun c u h p => b c u (a c u h p) p
theorem TK.new {H : Hp} {p : Addr} {o : HO} (h : H p = none) : TK H (upd H p o) := fun a u e _ => by
  rw [upd_ne (ne_of_none e h)]; exact e
theorem TK.put {H : Hp} {p : Addr} {o u : HO} (h : H p = some u) (n : ¬ Perm u) : TK H (upd H p o) := fun a u' e q => by
  have ne : a ≠ p := fun z => by
    subst z; rw [h] at e; cases e; exact n q
  rw [upd_ne ne]; exact e
/-- a list that never changes -/
def SqF (K : PySem.W.Frag) (H : Hp) (a : Addr) (xs : List V) : Prop :=
  (∃ o, H a = some (.frz o (.lst xs))) ∨
    ∃ (o : Obj) (its : Array Value) (n : Nat), K.lookup a = some o ∧ o.cls = .type "list" ∧ o.dict = none ∧ o.data = .seq its n ∧ its.size ≤ sizeLine ∧ Vals xs its.toList
theorem SqF.sq {K : PySem.W.Frag} {H : Hp} {a : Addr} {xs : List V} (h : SqF K H a xs) : SqL K H a xs := by
  rcases h with ⟨o, h⟩ | h
  · exact .inl (.inr ⟨o, h⟩)
  · exact .inr h
theorem SqF.tk {K : PySem.W.Frag} {H H' : Hp} {a : Addr} {xs : List V} (h : SqF K H a xs) (k : TK H H') : SqF K H' a xs := by
  rcases h with ⟨o, h⟩ | h
  · exact .inl ⟨o, k _ _ h trivial⟩
  · exact .inr h
theorem SqT.tk {K : PySem.W.Frag} {H H' : Hp} {a : Addr} {xs : List V} (h : SqT K H a xs) (k : TK H H') : SqT K H' a xs := by
  rcases h with (h | ⟨o, h⟩) | h
  · exact .inl (.inl (k _ _ h trivial))
  · exact .inl (.inr ⟨o, k _ _ h trivial⟩)
  · exact .inr h
mutual
def RD (K : PySem.W.Frag) (H : Hp) : D → V → Prop
  | .non, v => v = .non
  | .bl b, v => v = .bl b
  | .int i, v => v = .int i
  | .str s, v => v = .str ⟨s.toArray⟩ ∧ okc s
  | .tup ds, v => ∃ a xs, v = .ref a ∧ SqT K H a xs ∧ RDs K H ds xs
  | .fl ds, v => ∃ a xs, v = .ref a ∧ SqF K H a xs ∧ RDs K H ds xs
  | .ob a, v => v = .ref a
  | .ty n, v => v = .ty n
  | .any, v => ∃ s : Str, v = .str s
def RDs (K : PySem.W.Frag) (H : Hp) : List D → List V → Prop
  | [], vs => vs = []
  | d :: ds, vs => ∃ x xs, vs = x :: xs ∧ RD K H d x ∧ RDs K H ds xs
end
section
variable {K : PySem.W.Frag} {H H' : Hp}
mutual
theorem RD.tk (k : TK H H') : ∀ {d : D} {v : V}, RD K H d v → RD K H' d v
  | .non, _, h => h
  | .bl _, _, h => h
  | .int _, _, h => h
  | .str _, _, h => h
  | .tup ds, _, h => by
    obtain ⟨a, xs, e, s, r⟩ := h
    exact ⟨a, xs, e, SqT.tk s k, RDs.tk k r⟩
  | .fl ds, _, h => by
    obtain ⟨a, xs, e, s, r⟩ := h
    exact ⟨a, xs, e, SqF.tk s k, RDs.tk k r⟩
  | .ob _, _, h => h
  | .ty _, _, h => h
  | .any, _, h => h
theorem RDs.tk (k : TK H H') : ∀ {ds : List D} {vs : List V}, RDs K H ds vs → RDs K H' ds vs
  | [], _, h => h
  | _ :: _, _, h => by
    obtain ⟨x, xs, e, a, b⟩ := h
    exact ⟨x, xs, e, RD.tk k a, RDs.tk k b⟩
end
theorem RD.nonI : RD K H .non .non := rfl
theorem RD.blI {b : Bool} : RD K H (.bl b) (.bl b) := rfl
theorem RD.intI {i : Int} : RD K H (.int i) (.int i) := rfl
theorem RD.obI {a : Addr} : RD K H (.ob a) (.ref a) := rfl
theorem RD.strI {s : Tx} (h : okc s) : RD K H (.str s) (.str ⟨s.toArray⟩) := ⟨rfl, h⟩
theorem RD.tupI {a : Addr} {xs : List V} {ds : List D} (s : SqT K H a xs) (r : RDs K H ds xs) : RD K H (.tup ds) (.ref a) := ⟨a, xs, rfl, s, r⟩
theorem RDs.oneI {d : D} {v : V} (r : RD K H d v) : RDs K H [d] [v] := ⟨v, [], rfl, r, rfl⟩
theorem RDs.length : ∀ {ds : List D} {vs : List V}, RDs K H ds vs → ds.length = vs.length
  | [], _, h => by cases h; rfl
  | _ :: _, _, h => by
    obtain ⟨x, xs, rfl, _, b⟩ := h
    simp [RDs.length b]
theorem RDs.get : ∀ {ds : List D} {vs : List V} {i : Nat} {d : D}, RDs K H ds vs → ds[i]? = some d → ∃ v, vs[i]? = some v ∧ RD K H d v
  | [], _, _, _, _, e => by simp at e
  | _ :: _, _, 0, _, h, e => by
    obtain ⟨x, xs, rfl, a, _⟩ := h
    simp at e; subst e
    exact ⟨x, rfl, a⟩
  | _ :: _, _, i + 1, _, h, e => by
    obtain ⟨x, xs, rfl, _, b⟩ := h
    obtain ⟨v, e1, r⟩ := RDs.get (i := i) b (by simpa using e)
    exact ⟨v, by simpa using e1, r⟩
theorem RDs.getV : ∀ {ds : List D} {vs : List V} {i : Nat} {v : V}, RDs K H ds vs → vs[i]? = some v → ∃ d, ds[i]? = some d ∧ RD K H d v
  | [], _, _, _, h, e => by cases h; simp at e
  | d :: _, _, 0, _, h, e => by
    obtain ⟨x, xs, rfl, a, _⟩ := h
    simp at e; subst e
    exact ⟨d, rfl, a⟩
  | _ :: _, _, i + 1, _, h, e => by
    obtain ⟨x, xs, rfl, _, b⟩ := h
    obtain ⟨v, e1, r⟩ := RDs.getV (i := i) b (by simpa using e)
    exact ⟨v, by simpa using e1, r⟩
theorem RDs.append : ∀ {ds es : List D} {vs us : List V}, RDs K H ds vs → RDs K H es us → RDs K H (ds ++ es) (vs ++ us)
  | [], _, _, _, h, r => by cases h; exact r
  | _ :: _, _, _, _, h, r => by
    obtain ⟨x, xs, rfl, a, b⟩ := h
    exact ⟨x, xs ++ _, rfl, a, RDs.append b r⟩
theorem RDs.take : ∀ {ds : List D} {vs : List V} (n : Nat), RDs K H ds vs → RDs K H (ds.take n) (vs.take n)
  | _, _, 0, _ => rfl
  | [], _, _ + 1, h => by cases h; rfl
  | _ :: _, _, n + 1, h => by
    obtain ⟨x, xs, rfl, a, b⟩ := h
    exact ⟨x, xs.take n, rfl, a, RDs.take n b⟩
theorem RDs.drop : ∀ {ds : List D} {vs : List V} (n : Nat), RDs K H ds vs → RDs K H (ds.drop n) (vs.drop n)
  | _, _, 0, h => h
  | [], _, _ + 1, h => by cases h; rfl
  | _ :: _, _, n + 1, h => by
    obtain ⟨x, xs, rfl, _, b⟩ := h
    exact RDs.drop n b
theorem RDs.set {d : D} {v : V} (r : RD K H d v) : ∀ {ds : List D} {vs : List V} (i : Nat), RDs K H ds vs → RDs K H (ds.set i d) (vs.set i v)
  | [], _, _, h => by cases h; rfl
  | _ :: _, _, 0, h => by
    obtain ⟨x, xs, rfl, _, b⟩ := h
    exact ⟨v, xs, rfl, r, b⟩
  | _ :: _, _, i + 1, h => by
    obtain ⟨x, xs, rfl, a, b⟩ := h
    exact ⟨x, xs.set i v, rfl, a, RDs.set r i b⟩
theorem RDs.ints : ∀ (ns : List Int), RDs K H (ns.map D.int) (ns.map V.int)
  | [] => rfl
  | n :: ns => ⟨.int n, ns.map V.int, rfl, rfl, RDs.ints ns⟩
theorem RDs.reverse : ∀ {ds : List D} {vs : List V}, RDs K H ds vs → RDs K H ds.reverse vs.reverse
  | [], _, h => by cases h; rfl
  | _ :: _, _, h => by
    obtain ⟨x, xs, rfl, a, b⟩ := h
    rw [List.reverse_cons, List.reverse_cons]
    exact RDs.append (RDs.reverse b) ⟨x, [], rfl, a, rfl⟩
end
/-! ### what changes: lists, dicts, instances -/
inductive MO where
  | lst (xs : List D) | ins (C : Addr) (fs : List (Str × D)) | dic (kvs : List (D × D)) | dit (kvs : List (D × D)) | fdk (kvs : List (D × D)) | xd (fs : List (Str × D))
abbrev Mp := Addr → Option MO
def upm (M : Mp) (a : Addr) (o : MO) : Mp := fun b => if b = a then some o else M b
theorem upm_same {M : Mp} {a : Addr} {o : MO} : upm M a o a = some o := by unfold upm; rw [if_pos rfl]
theorem upm_ne {M : Mp} {a b : Addr} {o : MO} (h : b ≠ a) : upm M a o b = M b := by unfold upm; rw [if_neg h]
theorem upm_upm {M : Mp} {a : Addr} {o u : MO} : upm (upm M a o) a u = upm M a u := by
  funext b; unfold upm; split <;> rfl
theorem upm_none {M : Mp} {a b : Addr} {o : MO} (h : upm M a o b = none) : M b = none ∧ b ≠ a := by
  unfold upm at h; split at h
  · cases h
  · exact ⟨h, by assumption⟩
theorem mne {M : Mp} {a b : Addr} {o : MO} (h : M a = some o) (h' : M b = none) : a ≠ b := by
  intro e; subst e; rw [h] at h'; cases h'
/-- M' has all that M has -/
def Sub (M M' : Mp) : Prop := ∀ a o, M a = some o → M' a = some o
theorem Sub.refl (M : Mp) : Sub M M := fun _ _ h => h
theorem Sub.new {M M' : Mp} {p : Addr} {o : MO} (h : M p = none) (s : Sub M M') : Sub M (upm M' p o) := fun a u e => by
  rw [upm_ne (mne e h)]; exact s a u e
theorem Sub.trans {M M1 M2 : Mp} (a : Sub M M1) (b : Sub M1 M2) : Sub M M2 := fun c u h => b c u (a c u h)
def Fs (K : PySem.W.Frag) (H : Hp) : List (Str × D) → List (Str × V) → Prop
  | [], gs => gs = []
  | (n, d) :: fs, gs => ∃ v r, gs = (n, v) :: r ∧ RD K H d v ∧ Fs K H fs r
def keyD : D → Option Key
  | .int i => some (.inl i)
  | .str s => some (.inr ⟨s.toArray⟩)
  | _ => none
def keysD : List D → Option (List Key)
  | [] => some []
  | d :: ds => match keyD d, keysD ds with
    | some k, some ks => some (k :: ks)
    | _, _ => none
def keyT : D → Option (List Key)
  | .tup ds => keysD ds
  | _ => none
def Kvs {κ : Type} (K : PySem.W.Frag) (H : Hp) (kf : D → Option κ) : List (D × D) → List (κ × V) → Prop
  | [], gs => gs = []
  | (k, d) :: fs, gs => ∃ n v r, gs = (n, v) :: r ∧ kf k = some n ∧ RD K H d v ∧ Kvs K H kf fs r
def okKs (kvs : List (D × D)) : Prop := ∀ e ∈ kvs, ∀ s, e.1 = .str s → okc s
def RO (K : PySem.W.Frag) (H : Hp) (a : Addr) : MO → Prop
  | .lst ds => ∃ xs, H a = some (.lst xs) ∧ RDs K H ds xs
  | .ins C fs => ∃ dx gs, H a = some (.ins C dx gs) ∧ Fs K H fs gs
  | .dic kvs => ∃ gs, H a = some (.dK gs) ∧ Kvs K H keyD kvs gs ∧ okKs kvs
  | .dit kvs => ∃ gs, H a = some (.dT gs) ∧ Kvs K H keyT kvs gs
  | .fdk kvs => ∃ o gs, H a = some (.frz o (.dK gs)) ∧ Kvs K H keyD kvs gs ∧ okKs kvs
  | .xd fs => ∃ gs, H a = some (.xd gs) ∧ Fs K H fs gs
def RM (K : PySem.W.Frag) (H : Hp) (M : Mp) : Prop := ∀ a o, M a = some o → RO K H a o
section
variable {K : PySem.W.Frag} {H H' : Hp}
theorem Fs.tk (k : TK H H') : ∀ {fs : List (Str × D)} {gs : List (Str × V)}, Fs K H fs gs → Fs K H' fs gs
  | [], _, h => h
  | (n, d) :: fs, _, h => by
    obtain ⟨v, r, e, a, b⟩ := h
    exact ⟨v, r, e, RD.tk k a, Fs.tk k b⟩
theorem Kvs.tk {κ : Type} {kf : D → Option κ} (k : TK H H') : ∀ {fs : List (D × D)} {gs : List (κ × V)}, Kvs K H kf fs gs → Kvs K H' kf fs gs
  | [], _, h => h
  | (n, d) :: fs, _, h => by
    obtain ⟨m, v, r, e, q, a, b⟩ := h
    exact ⟨m, v, r, e, q, RD.tk k a, Kvs.tk k b⟩
theorem Fs.length : ∀ {fs : List (Str × D)} {gs : List (Str × V)}, Fs K H fs gs → fs.length = gs.length
  | [], _, h => by cases h; rfl
  | _ :: _, _, h => by
    obtain ⟨v, r, rfl, a, b⟩ := h
    simp [Fs.length b]
theorem Fs.lookup {f : Str} : ∀ {fs : List (Str × D)} {gs : List (Str × V)} {d : D}, Fs K H fs gs → fs.lookup f = some d → ∃ v, gs.lookup f = some v ∧ RD K H d v
  | [], _, _, _, e => by simp at e
  | (n, d) :: fs, _, _, h, e => by
    obtain ⟨v, r, rfl, a, b⟩ := h
    rw [List.lookup_cons] at e ⊢
    cases hq : (f == n) with
    | true => rw [hq] at e; cases e; exact ⟨v, rfl, a⟩
    | false => rw [hq] at e; exact Fs.lookup b e
theorem Fs.lookup_none {f : Str} : ∀ {fs : List (Str × D)} {gs : List (Str × V)}, Fs K H fs gs → fs.lookup f = none → gs.lookup f = none
  | [], _, h, e => by cases h; rfl
  | (n, d) :: fs, _, h, e => by
    obtain ⟨v, r, rfl, a, b⟩ := h
    rw [List.lookup_cons] at e ⊢
    cases hq : (f == n) with
    | true => rw [hq] at e; cases e
    | false => rw [hq] at e; exact Fs.lookup_none b e
def putD (f : Str) (d : D) : List (Str × D) → List (Str × D)
  | [] => [(f, d)]
  | (n, e) :: r => if n = f then (n, d) :: r else (n, e) :: putD f d r
theorem Fs.put {f : Str} {d : D} {v : V} (rv : RD K H d v) : ∀ {fs : List (Str × D)} {gs : List (Str × V)}, Fs K H fs gs → Fs K H (putD f d fs) (putF f v gs)
  | [], _, h => by cases h; exact ⟨v, [], rfl, rv, rfl⟩
  | (n, e) :: fs, _, h => by
    obtain ⟨u, r, rfl, a, b⟩ := h
    unfold putD putF
    by_cases q : n = f
    · rw [if_pos q, if_pos q]; exact ⟨v, r, rfl, rv, b⟩
    · rw [if_neg q, if_neg q]; exact ⟨u, _, rfl, a, Fs.put rv b⟩
theorem RO.lstI {a : Addr} {xs : List V} {ds : List D} (s : H a = Option.some (.lst xs)) (r : RDs K H ds xs) : RO K H a (.lst ds) := ⟨xs, s, r⟩
theorem RO.insI {a C dx : Addr} {gs : List (Str × V)} {fs : List (Str × D)} (s : H a = Option.some (.ins C dx gs)) (r : Fs K H fs gs) : RO K H a (.ins C fs) := ⟨dx, gs, s, r⟩
theorem RO.tk {a : Addr} {o : MO} (k : TK H H') (s : H' a = H a) (h : RO K H a o) : RO K H' a o := by
  cases o with
  | lst ds => obtain ⟨xs, e, r⟩ := h; exact ⟨xs, s.trans e, RDs.tk k r⟩
  | ins C fs => obtain ⟨dx, gs, e, r⟩ := h; exact ⟨dx, gs, s.trans e, Fs.tk k r⟩
  | dic kvs => obtain ⟨gs, e, r, z⟩ := h; exact ⟨gs, s.trans e, Kvs.tk k r, z⟩
  | dit kvs => obtain ⟨gs, e, r⟩ := h; exact ⟨gs, s.trans e, Kvs.tk k r⟩
  | fdk kvs => obtain ⟨o, gs, e, r, z⟩ := h; exact ⟨o, gs, s.trans e, Kvs.tk k r, z⟩
  | xd fs => obtain ⟨gs, e, r⟩ := h; exact ⟨gs, s.trans e, Fs.tk k r⟩
theorem RO.some {a : Addr} {o : MO} (h : RO K H a o) : ∃ u, H a = Option.some u := by
  cases o with
  | lst ds => obtain ⟨xs, e, r⟩ := h; exact ⟨_, e⟩
  | ins C fs => obtain ⟨dx, gs, e, r⟩ := h; exact ⟨_, e⟩
  | dic kvs => obtain ⟨gs, e, r⟩ := h; exact ⟨_, e⟩
  | dit kvs => obtain ⟨gs, e, r⟩ := h; exact ⟨_, e⟩
  | fdk kvs => obtain ⟨o, gs, e, r⟩ := h; exact ⟨_, e⟩
  | xd fs => obtain ⟨gs, e, r⟩ := h; exact ⟨_, e⟩
theorem RM.none {M : Mp} (h : RM K H M) {p : Addr} (n : H p = none) : M p = none := by
  cases q : M p with
  | none => rfl
  | some o =>
    obtain ⟨u, e⟩ := (h p o q).some
    rw [n] at e; cases e
theorem RM.sub {M M' : Mp} (h : RM K H M') (s : Sub M M') : RM K H M := fun a o e => h a o (s a o e)
/-- a new object that M does not know -/
theorem RM.skip {M : Mp} {p : Addr} {o : HO} (h : RM K H M) (n : H p = Option.none) : RM K (upd H p o) M := fun a u e =>
  (h a u e).tk (TK.new n) (upd_ne (fun z => by subst z; rw [h.none n] at e; cases e))
theorem RM.new {M : Mp} {p : Addr} {o : HO} {m : MO} (h : RM K H M) (n : H p = Option.none) (r : RO K (upd H p o) p m) : RM K (upd H p o) (upm M p m) := fun a u e => by
  by_cases q : a = p
  · subst q; rw [upm_same] at e; cases e; exact r
  · rw [upm_ne q] at e
    exact (h a u e).tk (TK.new n) (upd_ne q)
theorem RM.put {M : Mp} {p : Addr} {o u : HO} {m : MO} (h : RM K H M) (e0 : H p = some u) (n : ¬ Perm u) (r : RO K (upd H p o) p m) : RM K (upd H p o) (upm M p m) := fun a u e => by
  by_cases q : a = p
  · subst q; rw [upm_same] at e; cases e; exact r
  · rw [upm_ne q] at e
    exact (h a u e).tk (TK.put e0 n) (upd_ne q)
end
/-! ### slots -/
abbrev Env := List (Option D)
def RS (K : PySem.W.Frag) (H : Hp) (δ : Env) (σ : L2.St) : Prop := δ.length = σ.length ∧ ∀ (i : Nat) (d : D), δ[i]? = some (some d) → ∃ v, σ[i]? = some (some v) ∧ RD K H d v
section
variable {K : PySem.W.Frag} {H H' : Hp} {δ : Env} {σ : L2.St}
theorem RS.tk (h : RS K H δ σ) (k : TK H H') : RS K H' δ σ := ⟨h.1, fun i d e => let ⟨v, q, r⟩ := h.2 i d e; ⟨v, q, RD.tk k r⟩⟩
theorem RS.set {d : D} {v : V} (h : RS K H δ σ) (i : Nat) (r : RD K H d v) : RS K H (δ.set i (some d)) (σ.set i (some v)) := by
  refine ⟨by simp [h.1], fun j e q => ?_⟩
  by_cases hj : j = i
  · subst hj
    by_cases hl : j < δ.length
    · rw [List.getElem?_set_self hl] at q
      cases q
      exact ⟨v, by rw [List.getElem?_set_self (by rw [← h.1]; exact hl)], r⟩
    · rw [List.getElem?_eq_none_iff.mpr (by simp; omega)] at q; cases q
  · rw [List.getElem?_set_ne (Ne.symm hj)] at q
    rw [List.getElem?_set_ne (Ne.symm hj)]
    exact h.2 j e q
end
/-! ### exceptions as data -/
structure XD where
  cls : Addr
  fs : List (Str × D)
def XR (K : PySem.W.Frag) (H : Hp) (x : XD) (c : Value) (od : Option Addr) : Prop :=
  c = .ref x.cls ∧ ((x.fs = [] ∧ od = none) ∨ ∃ d gs, x.fs ≠ [] ∧ od = some d ∧ H d = some (.xd gs) ∧ Fs K H x.fs gs)
abbrev KD := D → Mp → Prop
abbrev XKD := XD → Mp → Prop
abbrev DE := Env → Mp → KD → XKD → Prop
abbrev DT := Env → Mp → (Bool → Mp → Prop) → XKD → Prop
abbrev DA := Env → Mp → (List D → Mp → Prop) → XKD → Prop
structure DEnds where
  nx : Env → Mp → Prop
  rt : KD
  bk : Env → Mp → Prop := fun _ _ => False
  ct : Env → Mp → Prop := fun _ _ => False
  xx : XD → Env → Mp → Prop := fun _ _ _ => False
abbrev DS := DEnds → Env → Mp → Prop
/-- where a raised exception is wished for -/
def Lf (K : PySem.W.Frag) (H0 : Hp) (W : WX) (XX : XD → Env → Mp → Prop) : Prop :=
  ∀ (x : XD) (c : Value) (od : Option Addr) (σ : L2.St) (H : Hp) (δ : Env) (M : Mp), TK H0 H → XR K H x c od → RS K H δ σ → RM K H M → XX x δ M → W c od σ H
structure Pre (K : PySem.W.Frag) (W : WX) (H0 : Hp) (σ : L2.St) (H : Hp) (δ : Env) (M : Mp) (XX : XD → Env → Mp → Prop) : Prop where
  tk : TK H0 H
  lf : Lf K H0 W XX
  rs : RS K H δ σ
  rm : RM K H M
theorem Pre.step {K : PySem.W.Frag} {W : WX} {H0 H H1 : Hp} {σ : L2.St} {δ : Env} {M M1 : Mp} {XX : XD → Env → Mp → Prop} (p : Pre K W H0 σ H δ M XX) (k : TK H H1) (r : RM K H1 M1) : Pre K W H0 σ H1 δ M1 XX :=
  ⟨p.tk.trans k, p.lf, p.rs.tk k, r⟩
def cE (K : PySem.W.Frag) (W : WX) (w : DE) : TE := fun σ H Q => ∃ H0 δ M Q' XX, Pre K W H0 σ H δ M XX ∧ w δ M Q' (fun x M => XX x δ M) ∧
  ∀ v H' d M', TK H H' → RD K H' d v → RM K H' M' → Q' d M' → Q v H'
def cT (K : PySem.W.Frag) (W : WX) (w : DT) : TT := fun σ H Q => ∃ H0 δ M Q' XX, Pre K W H0 σ H δ M XX ∧ w δ M Q' (fun x M => XX x δ M) ∧
  ∀ b H' M', TK H H' → RM K H' M' → Q' b M' → Q b H'
def cA (K : PySem.W.Frag) (W : WX) (w : DA) : TA := fun σ H Q => ∃ H0 δ M Q' XX, Pre K W H0 σ H δ M XX ∧ w δ M Q' (fun x M => XX x δ M) ∧
  ∀ vs H' ds M', TK H H' → RDs K H' ds vs → RM K H' M' → Q' ds M' → Q vs H'
/-- what D' wants is what D wants -/
structure LE (K : PySem.W.Frag) (H : Hp) (D' : DEnds) (D : Ends) : Prop where
  nx : ∀ σ H' δ M, TK H H' → RS K H' δ σ → RM K H' M → D'.nx δ M → D.nx σ H'
  rt : ∀ v H' d M, TK H H' → RD K H' d v → RM K H' M → D'.rt d M → D.rt v H'
  bk : ∀ σ H' δ M, TK H H' → RS K H' δ σ → RM K H' M → D'.bk δ M → D.bk σ H'
  ct : ∀ σ H' δ M, TK H H' → RS K H' δ σ → RM K H' M → D'.ct δ M → D.ct σ H'
theorem LE.tk {K : PySem.W.Frag} {H H1 : Hp} {D' : DEnds} {D : Ends} (l : LE K H D' D) (k : TK H H1) : LE K H1 D' D :=
  ⟨fun σ H' δ M k' => l.nx σ H' δ M (k.trans k'), fun v H' d M k' => l.rt v H' d M (k.trans k'), fun σ H' δ M k' => l.bk σ H' δ M (k.trans k'), fun σ H' δ M k' => l.ct σ H' δ M (k.trans k')⟩
def cS (K : PySem.W.Frag) (W : WX) (w : DS) : TS := fun D σ H => ∃ H0 δ M D', Pre K W H0 σ H δ M D'.xx ∧ w D' δ M ∧ LE K H D' D
abbrev QE (X : Cx) (W : WX) (e : Expr) (w : DE) : Prop := PE X e (cE X.K W w)
abbrev QT (X : Cx) (W : WX) (e : Expr) (w : DT) : Prop := PT X e (cT X.K W w)
abbrev QW (X : Cx) (W : WX) (e : Expr) (w : DT) : Prop := PW X e (cT X.K W w)
abbrev QA (X : Cx) (W : WX) (es : List Expr) (w : DA) : Prop := PA X es (cA X.K W w)
abbrev QS (X : Cx) (W : WX) (st : Stmt) (w : DS) : Prop := PS X st (cS X.K W w)
abbrev QSs (X : Cx) (W : WX) (st : List Stmt) (w : DS) : Prop := PSs X st (cS X.K W w)
/-! weaker readings -/
theorem pe_weak {X : Cx} {e : Expr} {t t' : TE} (h : PE X e t) (k : ∀ σ H Q, t' σ H Q → t σ H Q) : PE X e t' := ⟨fun pins s σ H Q I q => h.run pins s σ H Q I (k σ H Q q)⟩
theorem pt_weak {X : Cx} {e : Expr} {t t' : TT} (h : PT X e t) (k : ∀ σ H Q, t' σ H Q → t σ H Q) : PT X e t' := ⟨fun pins s σ H Q I q => h.run pins s σ H Q I (k σ H Q q)⟩
theorem pw_weak {X : Cx} {e : Expr} {t t' : TT} (h : PW X e t) (k : ∀ σ H Q, t' σ H Q → t σ H Q) : PW X e t' := ⟨fun wh pins s σ H Q I q => h.run wh pins s σ H Q I (k σ H Q q)⟩
theorem pa_weak {X : Cx} {e : List Expr} {t t' : TA} (h : PA X e t) (k : ∀ σ H Q, t' σ H Q → t σ H Q) : PA X e t' := ⟨fun pos pins s σ H Q I q => h.run pos pins s σ H Q I (k σ H Q q)⟩
theorem ps_weak {X : Cx} {e : Stmt} {t t' : TS} (h : PS X e t) (k : ∀ D σ H, t' D σ H → t D σ H) : PS X e t' := ⟨fun pins s σ H D I q => h.run pins s σ H D I (k D σ H q)⟩
theorem pss_weak {X : Cx} {e : List Stmt} {t t' : TS} (h : PSs X e t) (k : ∀ D σ H, t' D σ H → t D σ H) : PSs X e t' := ⟨fun pins s σ H D I q => h.run pins s σ H D I (k D σ H q)⟩
end QL
namespace QL
open PySem PySem.Spec PyProof.Rows L2
section
variable {X : Cx} {W : WX} {a b c e : Expr} {wa wb wc : DE} {pos : Pos}
/-! ### names, constants -/
def onS (o : Option (Option D)) (k : D → Prop) : Prop := match o with
  | some (some d) => k d
  | _ => False
def wVar (i : Nat) : DE := fun δ M Q _ => onS δ[i]? fun d => Q d M
theorem onS_ex {o : Option (Option D)} {k : D → Prop} (h : onS o k) : ∃ d, o = some (some d) ∧ k d := by
  unfold onS at h
  split at h
  · exact ⟨_, rfl, h⟩
  · exact h.elim
theorem qe_var (i : Nat) {x : Str} (hN : X.N[i]? = some x := by rfl) (hv : Vis X.env.scope x := by first | exact Or.inl rfl | exact Or.inr (Or.inl rfl) | exact Or.inr (Or.inr rfl)) (hd : (x == ("__debug__" : Str)) = false := by decide +kernel)
    (hcd : (x == ("__classdict__" : Str)) = false := by decide +kernel) : QE X W (.Name x pos) (wVar i) :=
  pe_weak (pe_var hN hv hd hcd) fun σ H Q ⟨H0, δ, M, Q', XX, p, w, k⟩ => by
    obtain ⟨d, e, q⟩ := onS_ex w
    obtain ⟨v, ev, r⟩ := p.rs.2 i d e
    exact ⟨v, ev, k v H d M (TK.refl H) r p.rm q⟩
def wC (d : D) : DE := fun _ M Q _ => Q d M
theorem qe_c {d : D} {v : V} (h : PE X e (tC v)) (r : ∀ H, RD X.K H d v) : QE X W e (wC d) :=
  pe_weak h fun σ H Q ⟨H0, δ, M, Q', XX, p, w, k⟩ => k v H d M (TK.refl H) (r H) p.rm w
theorem qe_int {i : Int} {j : Nat} : QE X W (.Constant (.int i) j pos) (wC (.int i)) := qe_c pe_int fun _ => rfl
theorem qe_bl {i : Bool} {j : Nat} : QE X W (.Constant (.bool i) j pos) (wC (.bl i)) := qe_c pe_bl fun _ => rfl
theorem qe_non {j : Nat} : QE X W (.Constant .none j pos) (wC .non) := qe_c pe_non fun _ => rfl
theorem str_of (s : String) : Str.ofString s = ⟨(tx s).toArray⟩ := Str.ofString_eq_toList s
theorem qe_str {s : String} {j : Nat} : QE X W (.Constant (.str (Str.ofString s)) j pos) (wC (.str (tx s))) :=
  qe_c pe_str fun _ => ⟨by rw [str_of], okc_tx s⟩
theorem qe_glob {x : Str} {v : V} {u : Value} {d : D} (rd : ∀ H, RD X.K H d v) (hg : Gl X x) (hm : X.mg x = some u) (r : RelV v u) (hd : (x == ("__debug__" : Str)) = false := by decide +kernel) : QE X W (.Name x pos) (wC d) := qe_c (pe_glob hg hm r hd) rd
/-! ### operations on two values -/
abbrev D2 := D → D → Mp → KD → Prop
def O2 (K : PySem.W.Frag) (r : R2) (rd : D2) : Prop := ∀ (x y : V) (d e : D) (H : Hp) (M : Mp) (Q : VK) (Q' : KD), RD K H d x → RD K H e y → RM K H M → rd d e M Q' →
  (∀ v H' d' M', TK H H' → RD K H' d' v → RM K H' M' → Q' d' M' → Q v H') → r x y H Q
def wOp (rd : D2) (wa wb : DE) : DE := fun δ M Q E => wa δ M (fun d M1 => wb δ M1 (fun e M2 => rd d e M2 Q) E) E
/-- the two operands in a row -/
theorem two {K : PySem.W.Frag} {σ : L2.St} {H : Hp} {Q : VK} {r : R2} {rd : D2} (o : O2 K r rd) (h : cE K W (wOp rd wa wb) σ H Q) : tOp r (cE K W wa) (cE K W wb) σ H Q := by
  obtain ⟨H0, δ, M, Q', XX, p, w, k⟩ := h
  refine ⟨H0, δ, M, _, XX, p, w, fun x H1 d M1 k1 r1 m1 w1 => ⟨H0, δ, M1, _, XX, p.step k1 m1, w1, fun y H2 e M2 k2 r2 m2 w2 => ?_⟩⟩
  exact o x y d e H2 M2 Q Q' (RD.tk k2 r1) r2 m2 w2 fun v H' d' M' k3 => k v H' d' M' (k1.trans (k2.trans k3))
theorem qe_op {op : Operator} {r : R2} {rd : D2} (ho : OpR X (binaryOp op) r) (o : O2 X.K r rd) (ha : QE X W a wa) (hb : QE X W b wb) : QE X W (.BinOp a op b pos) (wOp rd wa wb) :=
  pe_weak (pe_op ho ha hb) fun _ _ _ h => two o h
theorem qe_cmp {op : CmpOp} {r : R2} {rd : D2} (ho : OpR X (compareOp op) r) (o : O2 X.K r rd) (ha : QE X W a wa) (hb : QE X W b wb) (hm : behindInMarks op b = false) : QE X W (.Compare a [op] [b] pos) (wOp rd wa wb) :=
  pe_weak (pe_cmpR ho ha hb hm) fun _ _ _ h => two o h
/-- a value that is a bool, as a test -/
def wTst (w : DE) : DT := fun δ M Q E => w δ M (fun d M' => ∃ k, d = .bl k ∧ Q k M') E
theorem qt_cmp {op : CmpOp} {r : R2} {rd : D2} (ho : OpR X (compareOp op) r) (o : O2 X.K r rd) (ha : QE X W a wa) (hb : QE X W b wb) (hm : behindInMarks op b = false) : QT X W (.Compare a [op] [b] pos) (wTst (wOp rd wa wb)) :=
  pt_weak (pt_cmpR ho ha hb hm) fun σ H Q ⟨H0, δ, M, Q', XX, p, w, k⟩ => two o ⟨H0, δ, M, _, XX, p, w, fun v H' d M' k1 r1 m1 w1 => by
    obtain ⟨t, rfl, q⟩ := w1
    exact ⟨t, r1, k t H' M' k1 m1 q⟩⟩
/-- a < b < c -/
def wChain (rd rd' : D2) (wa wb wc : DE) : DE := fun δ M Q E => wa δ M (fun d M1 => wb δ M1 (fun e M2 => rd d e M2 fun z M3 => ∃ k, z = .bl k ∧ (if k = true then wc δ M3 (fun f M4 => rd' e f M4 Q) E else Q (.bl false) M3)) E) E
theorem three {K : PySem.W.Frag} {σ : L2.St} {H : Hp} {Q : VK} {r r' : R2} {rd rd' : D2} (o : O2 K r rd) (o' : O2 K r' rd') (h : cE K W (wChain rd rd' wa wb wc) σ H Q) : tChain r r' (cE K W wa) (cE K W wb) (cE K W wc) σ H Q := by
  obtain ⟨H0, δ, M, Q', XX, p, w, k⟩ := h
  refine ⟨H0, δ, M, _, XX, p, w, fun x H1 d M1 k1 r1 m1 w1 => ⟨H0, δ, M1, _, XX, p.step k1 m1, w1, fun y H2 e M2 k2 r2 m2 w2 => ?_⟩⟩
  refine o x y d e H2 M2 _ _ (RD.tk k2 r1) r2 m2 w2 fun v H3 d' M3 k3 r3 m3 w3 => ?_
  obtain ⟨t, rfl, w3⟩ := w3
  obtain rfl : v = .bl t := r3
  refine ⟨t, rfl, ?_⟩
  cases t with
  | false =>
    rw [if_neg Bool.false_ne_true] at w3 ⊢
    exact k _ _ _ _ (k1.trans (k2.trans k3)) RD.blI m3 w3
  | true =>
    rw [if_pos rfl] at w3 ⊢
    exact ⟨H0, δ, M3, _, XX, (p.step k1 m1).step (k2.trans k3) m3, w3, fun z H4 f M4 k4 r4 m4 w4 => o' y z e f H4 M4 Q Q' (RD.tk (k3.trans k4) r2) r4 m4 w4 fun v H' d' M' k5 => k v H' d' M' (k1.trans (k2.trans (k3.trans (k4.trans k5))))⟩
theorem qt_chain {op op' : CmpOp} {r r' : R2} {rd rd' : D2} (ho : OpR X (compareOp op) r) (o : O2 X.K r rd) (ho' : OpR X (compareOp op') r') (o' : O2 X.K r' rd') (ha : QE X W a wa) (hb : QE X W b wb) (hc : QE X W c wc)
    (hm : lastMarks [op, op'] [b, c] = false := by with_unfolding_all rfl) : QT X W (.Compare a [op, op'] [b, c] pos) (wTst (wChain rd rd' wa wb wc)) :=
  pt_weak (pt_chain ho ho' ha hb hc hm) fun σ H Q ⟨H0, δ, M, Q', XX, p, w, k⟩ => three o o' ⟨H0, δ, M, _, XX, p, w, fun v H' d M' k1 r1 m1 w1 => by
    obtain ⟨t, rfl, q⟩ := w1
    exact ⟨t, r1, k t H' M' k1 m1 q⟩⟩
/-! ### + - * // % ** -/
def onL (M : Mp) (a : Addr) (k : List D → Prop) : Prop := ∃ xs, M a = some (.lst xs) ∧ k xs
theorem onL_of {M : Mp} {a : Addr} {xs : List D} {k : List D → Prop} (h : M a = some (.lst xs)) : onL M a k = k xs := by
  apply propext
  refine ⟨fun ⟨ys, e, q⟩ => ?_, fun q => ⟨xs, h, q⟩⟩
  rw [h] at e; cases e; exact q
theorem onL_same {M : Mp} {a : Addr} {xs : List D} {k : List D → Prop} : onL (upm M a (.lst xs)) a k = k xs := onL_of upm_same
def addD : D2 := fun d e M Q => match d, e with
  | .int i, .int j => Q (.int (i + j)) M
  | .str x, .str y => x.length + y.length ≤ sizeLine ∧ Q (.str (x ++ y)) M
  | .tup xs, .tup ys => xs.length + ys.length ≤ sizeLine ∧ Q (.tup (xs ++ ys)) M
  | .ob a, .ob b => onL M a fun xs => onL M b fun ys => xs.length + ys.length ≤ sizeLine ∧ ∀ p, M p = none → Q (.ob p) (upm M p (.lst (xs ++ ys)))
  | _, _ => False
theorem str_len {x : Tx} : Str.length ⟨x.toArray⟩ = x.length := by simp [Str.length]
theorem str_app {x y : Tx} : (⟨x.toArray⟩ : Str) ++ (⟨y.toArray⟩ : Str) = ⟨(x ++ y).toArray⟩ := by
  show Str.append _ _ = _
  simp [Str.append]
def rAddAll (K : PySem.W.Frag) : R2 := fun x y H Q => rI0 (fun i j => .int (i + j)) x y H Q ∨ (∃ i j, x = .str i ∧ y = .str j ∧ i.length + j.length ≤ sizeLine ∧ Q (.str (i ++ j)) H) ∨ rCatA K x y H Q ∨ rCat x y H Q
theorem op_addAll : OpR X (binaryOp .Add) (rAddAll X.K) := op_add.or (op_add_str.or (op_catA.or op_cat))
theorem o2_add {K : PySem.W.Frag} : O2 K (rAddAll K) addD := by
  intro x y d e H M Q Q' r1 r2 m w k
  unfold addD at w
  split at w
  · cases r1; cases r2
    exact .inl ⟨_, _, rfl, rfl, k _ H _ M (TK.refl H) RD.intI m w⟩
  · obtain ⟨rfl, o1⟩ := r1
    obtain ⟨rfl, o2⟩ := r2
    refine .inr (.inl ⟨_, _, rfl, rfl, ?_, k _ H _ M (TK.refl H) (by rw [str_app]; exact RD.strI (okc_append o1 o2)) m w.2⟩)
    rw [str_len, str_len]; exact w.1
  · obtain ⟨a, xs, rfl, s1, t1⟩ := r1
    obtain ⟨b, ys, rfl, s2, t2⟩ := r2
    have l1 := t1.length
    have l2 := t2.length
    have tt := RDs.append t1 t2
    refine .inr (.inr (.inl ⟨a, b, xs, ys, rfl, rfl, s1, s2, by omega, fun z => ?_, fun z z2 => ?_, fun _ _ p hp => ?_⟩))
    · subst z
      exact k _ H _ M (TK.refl H) (RD.tupI s2 tt) m w.2
    · subst z2
      rw [List.append_nil] at tt
      exact k _ H _ M (TK.refl H) (RD.tupI s1 tt) m w.2
    · exact k _ _ _ M (TK.new hp) (RD.tupI (SqT.of upd_same) (RDs.tk (TK.new hp) tt)) (m.skip hp) w.2
  · cases r1; cases r2
    obtain ⟨xs, e1, ys, e2, hl, w⟩ := w
    obtain ⟨us, h1, t1⟩ := m _ _ e1
    obtain ⟨vs, h2, t2⟩ := m _ _ e2
    have l1 := t1.length
    have l2 := t2.length
    refine .inr (.inr (.inr ⟨_, _, us, vs, rfl, rfl, h1, h2, by omega, fun p hp => ?_⟩))
    exact k _ _ _ _ (TK.new hp) RD.obI (m.new hp (RO.lstI upd_same (RDs.tk (TK.new hp) (RDs.append t1 t2)))) (w p (m.none hp))
  · exact w.elim
theorem qe_add (ha : QE X W a wa) (hb : QE X W b wb) : QE X W (.BinOp a .Add b pos) (wOp addD wa wb) := qe_op op_addAll o2_add ha hb
/-- on two ints -/
def intD (C : Int → Int → Prop) (f : Int → Int → D) : D2 := fun d e M Q => match d, e with
  | .int i, .int j => C i j ∧ Q (f i j) M
  | _, _ => False
def int0D (f : Int → Int → D) : D2 := fun d e M Q => match d, e with
  | .int i, .int j => Q (f i j) M
  | _, _ => False
theorem o2_int {K : PySem.W.Frag} {C : Int → Int → Prop} {f : Int → Int → D} {g : Int → Int → V} (hf : ∀ i j H, RD K H (f i j) (g i j)) : O2 K (rI C g) (intD C f) := by
  intro x y d e H M Q Q' r1 r2 m w k
  unfold intD at w
  split at w
  · cases r1; cases r2
    exact ⟨_, _, rfl, rfl, w.1, k _ H _ M (TK.refl H) (hf _ _ H) m w.2⟩
  · exact w.elim
theorem o2_int0 {K : PySem.W.Frag} {f : Int → Int → D} {g : Int → Int → V} (hf : ∀ i j H, RD K H (f i j) (g i j)) : O2 K (rI0 g) (int0D f) := by
  intro x y d e H M Q Q' r1 r2 m w k
  unfold int0D at w
  split at w
  · cases r1; cases r2
    exact ⟨_, _, rfl, rfl, k _ H _ M (TK.refl H) (hf _ _ H) m w⟩
  · exact w.elim
abbrev subD : D2 := int0D fun i j => .int (i - j)
abbrev divD : D2 := intD CDiv fun i j => .int (i / j)
abbrev modD : D2 := intD (fun _ j => 0 < j) fun i j => .int (i % j)
abbrev powD : D2 := intD CPow fun i j => .int (i ^ j.toNat)
theorem qe_sub (ha : QE X W a wa) (hb : QE X W b wb) : QE X W (.BinOp a .Sub b pos) (wOp subD wa wb) := qe_op op_sub (o2_int0 fun _ _ _ => rfl) ha hb
theorem qe_div (ha : QE X W a wa) (hb : QE X W b wb) : QE X W (.BinOp a .FloorDiv b pos) (wOp divD wa wb) := qe_op op_fdiv (o2_int fun _ _ _ => rfl) ha hb
theorem qe_mod (ha : QE X W a wa) (hb : QE X W b wb) : QE X W (.BinOp a .Mod b pos) (wOp modD wa wb) := qe_op op_mod (o2_int fun _ _ _ => rfl) ha hb
theorem qe_pow (ha : QE X W a wa) (hb : QE X W b wb) : QE X W (.BinOp a .Pow b pos) (wOp powD wa wb) := qe_op op_pow (o2_int fun _ _ _ => rfl) ha hb
abbrev ltD : D2 := int0D fun i j => .bl (decide (i < j))
abbrev leD : D2 := int0D fun i j => .bl (decide (i ≤ j))
abbrev gtD : D2 := int0D fun i j => .bl (decide (j < i))
abbrev geD : D2 := int0D fun i j => .bl (decide (j ≤ i))
theorem o2_lt {K : PySem.W.Frag} : O2 K (rI0 fun i j => .bl (decide (i < j))) ltD := o2_int0 fun _ _ _ => rfl
theorem o2_le {K : PySem.W.Frag} : O2 K (rI0 fun i j => .bl (decide (i ≤ j))) leD := o2_int0 fun _ _ _ => rfl
theorem o2_gt {K : PySem.W.Frag} : O2 K (rI0 fun i j => .bl (decide (j < i))) gtD := o2_int0 fun _ _ _ => rfl
theorem o2_ge {K : PySem.W.Frag} : O2 K (rI0 fun i j => .bl (decide (j ≤ i))) geD := o2_int0 fun _ _ _ => rfl
end
/-! ### == of data -/
def toP : D → PyData
  | .non => .none
  | .bl b => .bool b
  | .int i => .int i
  | .str s => .str ⟨s.toArray⟩
  | .tup xs => .tuple (toPs xs)
  | .fl xs => .list (toPs xs)
  | .ob _ => .none
  | .ty _ => .none
  | .any => .none
where toPs : List D → List PyData
  | [] => []
  | x :: xs => toP x :: toPs xs
/-- data without objects, at most n deep -/
def okN : Nat → D → Bool
  | _, .ob _ => false
  | _, .ty _ => false
  | _, .any => false
  | 0, .tup _ => false
  | 0, .fl _ => false
  | n + 1, .tup xs => okNs n xs
  | n + 1, .fl xs => okNs n xs
  | _, _ => true
where okNs (n : Nat) : List D → Bool
  | [] => true
  | x :: xs => okN n x && okNs n xs
end QL
namespace QL
open PySem PySem.Spec PyProof.Rows L2
/-! ### == -/
section
variable {K : PySem.W.Frag} {H : Hp}
mutual
theorem dp_of : ∀ {n : Nat} {d : D} {v : V}, okN n d = true → RD K H d v → Dp K H v (toP d)
  | _, .non, _, _, r => by cases r; exact .non
  | _, .bl b, _, _, r => by cases r; exact .bl b
  | _, .int i, _, _, r => by cases r; exact .int i
  | _, .str s, _, _, r => by obtain ⟨rfl, _⟩ := r; exact .str _
  | n, .tup ds, _, h, r => by
    obtain ⟨a, xs, rfl, s, t⟩ := r
    cases n with
    | zero => exact absurd h (by simp [okN])
    | succ n => exact .tup s (dps_of (n := n) (by simpa [okN] using h) t)
  | n, .fl ds, _, h, r => by
    obtain ⟨a, xs, rfl, s, t⟩ := r
    cases n with
    | zero => exact absurd h (by simp [okN])
    | succ n => exact .lst s.sq (dps_of (n := n) (by simpa [okN] using h) t)
  | _, .ob _, _, h, _ => by simp [okN] at h
  | _, .ty _, _, h, _ => by simp [okN] at h
  | _, .any, _, h, _ => by simp [okN] at h
theorem dps_of : ∀ {n : Nat} {ds : List D} {vs : List V}, okN.okNs n ds = true → RDs K H ds vs → DpAll K H vs (toP.toPs ds)
  | _, [], _, _, r => by cases r; exact .nil
  | n, d :: ds, _, h, r => by
    obtain ⟨x, xs, rfl, a, b⟩ := r
    have h' : okN n d = true ∧ okN.okNs n ds = true := by simpa [okN.okNs] using h
    exact .cons (dp_of h'.1 a) (dps_of h'.2 b)
end
theorem strOk_of {s : Tx} (h : okc s) : PySem.PyData.strOk ⟨s.toArray⟩ = true := by
  unfold PySem.PyData.strOk
  simp only [List.all_toArray, List.all_eq_true, decide_eq_true_eq]
  exact h
mutual
theorem lay_of : ∀ {n : Nat} {d : D} {v : V}, okN n d = true → RD K H d v → (toP d).canLay0 = true ∧ (toP d).depth ≤ n
  | _, .non, _, _, r => ⟨rfl, Nat.zero_le _⟩
  | _, .bl b, _, _, r => ⟨rfl, Nat.zero_le _⟩
  | _, .int i, _, _, r => ⟨rfl, Nat.zero_le _⟩
  | _, .str s, _, _, r => ⟨strOk_of r.2, Nat.zero_le _⟩
  | n, .tup ds, _, h, r => by
    obtain ⟨a, xs, rfl, s, t⟩ := r
    cases n with
    | zero => exact absurd h (by simp [okN])
    | succ n =>
      obtain ⟨h1, h2⟩ := lays_of (n := n) (by simpa [okN] using h) t
      exact ⟨h1, Nat.succ_le_succ h2⟩
  | n, .fl ds, _, h, r => by
    obtain ⟨a, xs, rfl, s, t⟩ := r
    cases n with
    | zero => exact absurd h (by simp [okN])
    | succ n =>
      obtain ⟨h1, h2⟩ := lays_of (n := n) (by simpa [okN] using h) t
      exact ⟨h1, Nat.succ_le_succ h2⟩
  | _, .ob _, _, h, _ => by simp [okN] at h
  | _, .ty _, _, h, _ => by simp [okN] at h
  | _, .any, _, h, _ => by simp [okN] at h
theorem lays_of : ∀ {n : Nat} {ds : List D} {vs : List V}, okN.okNs n ds = true → RDs K H ds vs → PyData.canLayAll0 (toP.toPs ds) = true ∧ PyData.depthAll (toP.toPs ds) ≤ n
  | _, [], _, _, r => ⟨rfl, Nat.zero_le _⟩
  | n, d :: ds, _, h, r => by
    obtain ⟨x, xs, rfl, a, b⟩ := r
    have h' : okN n d = true ∧ okN.okNs n ds = true := by simpa [okN.okNs] using h
    obtain ⟨a1, a2⟩ := lay_of h'.1 a
    obtain ⟨b1, b2⟩ := lays_of h'.2 b
    exact ⟨by simp [toP.toPs, PyData.canLayAll0, a1, b1], by simp only [toP.toPs, PyData.depthAll]; omega⟩
end
theorem shaped_of {d : D} {v : V} (h : okN 64 d = true) (r : RD K H d v) : SeqAt.shaped (toP d) = true := by
  obtain ⟨h1, h2⟩ := lay_of h r
  show ((toP d).canLay0 && decide ((toP d).depth ≤ 64)) = true
  rw [h1, decide_eq_true h2]; rfl
end
def deq (d e : D) : Bool := PyData.eqv (toP d) (toP e)
def eqD : D2 := fun d e M Q => okN 64 d = true ∧ okN 64 e = true ∧ Q (.bl (deq d e)) M
def neD : D2 := fun d e M Q => okN 64 d = true ∧ okN 64 e = true ∧ Q (.bl (!deq d e)) M
theorem o2_eq {K : PySem.W.Frag} : O2 K (rEqD K) eqD := by
  intro x y d e H M Q Q' r1 r2 m w k
  exact ⟨_, _, dp_of w.1 r1, dp_of w.2.1 r2, shaped_of w.1 r1, shaped_of w.2.1 r2, k _ H _ M (TK.refl H) RD.blI m w.2.2⟩
theorem o2_ne {K : PySem.W.Frag} : O2 K (rNeD K) neD := by
  intro x y d e H M Q Q' r1 r2 m w k
  exact ⟨_, _, dp_of w.1 r1, dp_of w.2.1 r2, shaped_of w.1 r1, shaped_of w.2.1 r2, k _ H _ M (TK.refl H) RD.blI m w.2.2⟩
/-! what == gives -/
theorem deq_str (x y : Tx) : deq (.str x) (.str y) = decide (x = y) := by
  show ((⟨x.toArray⟩ : Str) == ⟨y.toArray⟩) = _
  by_cases h : x = y
  · subst h; simp
  · rw [decide_eq_false h]
    exact beq_eq_false_iff_ne.mpr fun q => h (by injection q with q; simpa using congrArg Array.toList q)
theorem deq_int (x y : Int) : deq (.int x) (.int y) = decide (x = y) := by
  show (x == y) = _
  exact Bool.beq_eq_decide_eq x y
theorem deq_bl (x y : Bool) : deq (.bl x) (.bl y) = (x == y) := rfl
theorem deq_non : deq .non .non = true := rfl
theorem deq_non_str (x : Tx) : deq .non (.str x) = false := rfl
theorem deq_str_non (x : Tx) : deq (.str x) .non = false := rfl
theorem deq_int_str (i : Int) (x : Tx) : deq (.int i) (.str x) = false := rfl
theorem deq_str_int (i : Int) (x : Tx) : deq (.str x) (.int i) = false := rfl
theorem deq_non_int (i : Int) : deq .non (.int i) = false := rfl
theorem deq_int_non (i : Int) : deq (.int i) .non = false := rfl
theorem deq_tup_str (i : List D) (x : Tx) : deq (.tup i) (.str x) = false := rfl
theorem deq_str_tup (i : List D) (x : Tx) : deq (.str x) (.tup i) = false := rfl
theorem deq_tup_non (i : List D) : deq (.tup i) .non = false := rfl
theorem deq_non_tup (i : List D) : deq .non (.tup i) = false := rfl
theorem deq_tup_nil : deq (.tup []) (.tup []) = true := rfl
theorem deq_tup_cons (x y : D) (xs ys : List D) : deq (.tup (x :: xs)) (.tup (y :: ys)) = (deq x y && deq (.tup xs) (.tup ys)) := rfl
theorem deq_tup_nc (y : D) (ys : List D) : deq (.tup []) (.tup (y :: ys)) = false := rfl
theorem deq_tup_cn (y : D) (ys : List D) : deq (.tup (y :: ys)) (.tup []) = false := rfl
/-! ### in -/
/-- one sign in a text; an item in a tuple or a list that never changes; an item in a list -/
def inD (neg : Bool) : D2 := fun d e M Q => match e with
  | .str z => ∃ c, d = .str [c] ∧ Q (.bl (xor neg (decide (c ∈ z)))) M
  | .tup xs => okN 64 d = true ∧ okN 64 (.tup xs) = true ∧ Q (.bl (xor neg (xs.any fun x => deq x d))) M
  | .ob a => onL M a fun xs => okN 64 d = true ∧ okN 64 (.tup xs) = true ∧ Q (.bl (xor neg (xs.any fun x => deq x d))) M
  | _ => False
section
variable {X : Cx}
def rInT (K : PySem.W.Frag) (neg : Bool) : R2 := fun x y H Q => ∃ d ds, Dp K H x d ∧ Dp K H y (.tuple ds) ∧ SeqAt.shaped d = true ∧ SeqAt.shaped (.tuple ds) = true ∧ Q (.bl (xor neg (ds.any fun z => PyData.eqv z d))) H
theorem op_inT (hu : X.A.units + 65 < cLine) : OpR X (compareOp .In) (rInT X.K false) := by
  intro pins s σ H x y v u Q I rx ry h
  obtain ⟨d, ds, hd, he, sd, se, q⟩ := h
  obtain ⟨as, r1⟩ := Dp.reads I d x v hd rx
  obtain ⟨bs, r2⟩ := Dp.reads I (.tuple ds) y u he ry
  exact SeqAt.in_tuple_reads r2 r1 (SeqAt.canLay_of_shaped se) (SeqAt.canLay_of_shaped sd) (room_in_shaped sd hu) ⟨.bl _, H, I, rfl, by simpa using q⟩
theorem op_notInT (hu : X.A.units + 65 < cLine) : OpR X (compareOp .NotIn) (rInT X.K true) := by
  intro pins s σ H x y v u Q I rx ry h
  obtain ⟨d, ds, hd, he, sd, se, q⟩ := h
  obtain ⟨as, r1⟩ := Dp.reads I d x v hd rx
  obtain ⟨bs, r2⟩ := Dp.reads I (.tuple ds) y u he ry
  exact SeqAt.notIn_tuple_reads r2 r1 (SeqAt.canLay_of_shaped se) (SeqAt.canLay_of_shaped sd) (room_in_shaped sd hu) ⟨.bl _, H, I, rfl, by simpa using q⟩
def rInL (K : PySem.W.Frag) (neg : Bool) : R2 := fun x y H Q => ∃ d ds, Dp K H x d ∧ Dp K H y (.list ds) ∧ SeqAt.shaped d = true ∧ SeqAt.shaped (.list ds) = true ∧ Q (.bl (xor neg (ds.any fun z => PyData.eqv z d))) H
theorem op_inL (hu : X.A.units + 65 < cLine) : OpR X (compareOp .In) (rInL X.K false) := by
  intro pins s σ H x y v u Q I rx ry h
  obtain ⟨d, ds, hd, he, sd, se, q⟩ := h
  obtain ⟨as, r1⟩ := Dp.reads I d x v hd rx
  obtain ⟨bs, r2⟩ := Dp.reads I (.list ds) y u he ry
  exact SeqAt.in_list_reads r2 r1 (SeqAt.canLay_of_shaped se) (SeqAt.canLay_of_shaped sd) (room_in_shaped sd hu) ⟨.bl _, H, I, rfl, by simpa using q⟩
theorem op_notInL (hu : X.A.units + 65 < cLine) : OpR X (compareOp .NotIn) (rInL X.K true) := by
  intro pins s σ H x y v u Q I rx ry h
  obtain ⟨d, ds, hd, he, sd, se, q⟩ := h
  obtain ⟨as, r1⟩ := Dp.reads I d x v hd rx
  obtain ⟨bs, r2⟩ := Dp.reads I (.list ds) y u he ry
  exact SeqAt.notIn_list_reads r2 r1 (SeqAt.canLay_of_shaped se) (SeqAt.canLay_of_shaped sd) (room_in_shaped sd hu) ⟨.bl _, H, I, rfl, by simpa using q⟩
def rInS (neg : Bool) : R2 := fun x y H Q => ∃ (c : Nat) (z : Str), x = .str ⟨#[c]⟩ ∧ y = .str z ∧ Q (.bl (xor neg (decide (c ∈ z.cps.toList)))) H
def rInAll (K : PySem.W.Frag) (neg : Bool) : R2 := fun x y H Q => rInS neg x y H Q ∨ rInT K neg x y H Q ∨ rInL K neg x y H Q
theorem opr_weak {f : Value → Value → Sem Value} {r r' : R2} (h : OpR X f r) (k : ∀ x y H Q, r' x y H Q → r x y H Q) : OpR X f r' := fun pins s σ H x y v u Q I rx ry q => h pins s σ H x y v u Q I rx ry (k _ _ _ _ q)
theorem op_inAll (hu : X.A.units + 65 < cLine) : OpR X (compareOp .In) (rInAll X.K false) := OpR.or (opr_weak op_in_sign fun x y H Q h => by
  obtain ⟨c, z, h1, h2, q⟩ := h
  exact ⟨c, z, h1, h2, by simpa using q⟩) (OpR.or (op_inT hu) (op_inL hu))
theorem op_notInAll (hu : X.A.units + 65 < cLine) : OpR X (compareOp .NotIn) (rInAll X.K true) := OpR.or (opr_weak op_notIn_sign fun x y H Q h => by
  obtain ⟨c, z, h1, h2, q⟩ := h
  exact ⟨c, z, h1, h2, by simpa using q⟩) (OpR.or (op_notInT hu) (op_notInL hu))
end
theorem any_toPs (d : D) : ∀ xs : List D, (toP.toPs xs).any (fun z => PyData.eqv z (toP d)) = xs.any fun x => deq x d
  | [] => rfl
  | x :: xs => by
    show (PyData.eqv (toP x) (toP d) || _) = _
    rw [any_toPs d xs]; rfl
theorem okNs_of {n : Nat} {xs : List D} (h : okN (n + 1) (.tup xs) = true) : okN.okNs n xs = true := by simpa [okN] using h
theorem o2_in {K : PySem.W.Frag} {neg : Bool} : O2 K (rInAll K neg) (inD neg) := by
  intro x y d e H M Q Q' r1 r2 m w k
  unfold inD at w
  split at w
  · obtain ⟨c, rfl, w⟩ := w
    obtain ⟨rfl, _⟩ := r1
    obtain ⟨rfl, _⟩ := r2
    exact .inl ⟨c, _, rfl, rfl, k _ H _ M (TK.refl H) RD.blI m (by simpa using w)⟩
  · rename_i xs
    obtain ⟨h1, h2, w⟩ := w
    refine .inr (.inl ⟨_, _, dp_of h1 r1, dp_of h2 r2, shaped_of h1 r1, shaped_of h2 r2, ?_⟩)
    rw [any_toPs]
    exact k _ H _ M (TK.refl H) RD.blI m w
  · rename_i a
    cases r2
    obtain ⟨xs, e1, h1, h2, w⟩ := w
    obtain ⟨us, h3, t1⟩ := m _ _ e1
    have z := okNs_of h2
    obtain ⟨l1, l2⟩ := lays_of z t1
    refine .inr (.inr ⟨_, _, dp_of h1 r1, .lst (SqL.of h3) (dps_of z t1), shaped_of h1 r1, ?_, ?_⟩)
    · show (PyData.canLay0 (.list _) && decide (PyData.depth (.list _) ≤ 64)) = true
      rw [Bool.and_eq_true]
      exact ⟨by simp only [PyData.canLay0]; exact l1, decide_eq_true (by simp only [PyData.depth]; omega)⟩
    · rw [any_toPs]
      exact k _ H _ M (TK.refl H) RD.blI m w
  · exact w.elim
/-! ### is None -/
def isNone : D → Bool
  | .non => true
  | _ => false
def isND (neg : Bool) : D2 := fun d e M Q => e = .non ∧ Q (.bl (xor neg (isNone d))) M
def rIsN (neg : Bool) : R2 := fun x y H Q => y = .non ∧ Q (.bl (xor neg (decide (x = .non)))) H
theorem isNone_of {K : PySem.W.Frag} {H : Hp} {d : D} {x : V} (r : RD K H d x) : decide (x = .non) = isNone d := by
  cases d with
  | non => cases r; rfl
  | bl _ => cases r; rfl
  | int _ => cases r; rfl
  | str _ => obtain ⟨rfl, _⟩ := r; rfl
  | tup _ => obtain ⟨_, _, rfl, _⟩ := r; rfl
  | fl _ => obtain ⟨_, _, rfl, _⟩ := r; rfl
  | ob _ => cases r; rfl
  | ty _ => cases r; rfl
  | any => obtain ⟨_, rfl⟩ := r; rfl
theorem op_isN' {X : Cx} : OpR X (compareOp .Is) (rIsN false) := opr_weak op_isN fun x y H Q h => ⟨h.1, by simpa using h.2⟩
theorem op_notN' {X : Cx} : OpR X (compareOp .IsNot) (rIsN true) := opr_weak op_notN fun x y H Q h => ⟨h.1, by simpa using h.2⟩
theorem o2_isN {K : PySem.W.Frag} {neg : Bool} : O2 K (rIsN neg) (isND neg) := by
  intro x y d e H M Q Q' r1 r2 m w k
  obtain ⟨rfl, w⟩ := w
  refine ⟨r2, ?_⟩
  rw [isNone_of r1]
  exact k _ H _ M (TK.refl H) RD.blI m w
end QL
namespace QL
open PySem PySem.Spec PyProof.Rows L2
section
variable {X : Cx} {W : WX} {a b c e : Expr} {es : List Expr} {wa wb wc : DE} {ws : DA} {ta tb tc : DT} {pos : Pos}
/-! ### truth -/
def truD (d : D) (M : Mp) (Q : Bool → Mp → Prop) : Prop := match d with
  | .non => Q false M
  | .bl b => Q b M
  | .int i => Q (i != 0) M
  | .str s => s.length ≤ sizeLine ∧ Q (!s.isEmpty) M
  | .tup xs => Q (!xs.isEmpty) M
  | .fl xs => Q (!xs.isEmpty) M
  | .ob a => (∃ xs, M a = some (.lst xs) ∧ Q (!xs.isEmpty) M) ∨ (∃ kvs, M a = some (.dic kvs) ∧ Q (!kvs.isEmpty) M)
  | .ty _ => False
  | .any => False
theorem isEmpty_rds {K : PySem.W.Frag} {H : Hp} {ds : List D} {xs : List V} (r : RDs K H ds xs) : xs.isEmpty = ds.isEmpty := by
  cases ds with
  | nil => cases r; rfl
  | cons d ds => obtain ⟨_, _, rfl, _⟩ := r; rfl
theorem isEmpty_kvs {κ : Type} {K : PySem.W.Frag} {H : Hp} {kf : D → Option κ} {ds : List (D × D)} {xs : List (κ × V)} (r : Kvs K H kf ds xs) : xs.isEmpty = ds.isEmpty := by
  cases ds with
  | nil => cases r; rfl
  | cons d ds => obtain ⟨_, _, _, rfl, _⟩ := r; rfl
theorem tru_of {K : PySem.W.Frag} {H : Hp} {M : Mp} {d : D} {x : V} {Q : Bool → Mp → Prop} (r : RD K H d x) (m : RM K H M) (w : truD d M Q) : ∃ b, TruV K x H b ∧ Q b M := by
  unfold truD at w
  cases d with
  | non => cases r; exact ⟨_, rfl, w⟩
  | bl b => cases r; exact ⟨_, rfl, w⟩
  | int i => cases r; exact ⟨_, rfl, w⟩
  | str s =>
    obtain ⟨rfl, _⟩ := r
    refine ⟨_, ⟨by rw [str_len]; exact w.1, rfl⟩, ?_⟩
    have e : ((Str.length ⟨s.toArray⟩ : Int) != 0) = !s.isEmpty := by
      rw [str_len]
      cases s with
      | nil => rfl
      | cons c s =>
        show _ = true
        rw [bne_iff_ne]
        simp only [List.length_cons]
        omega
    rw [e]; exact w.2
  | tup ds =>
    obtain ⟨a, xs, rfl, s, t⟩ := r
    exact ⟨_, .inr (.inl ⟨xs, s, rfl⟩), by rw [isEmpty_rds t]; exact w⟩
  | fl ds =>
    obtain ⟨a, xs, rfl, s, t⟩ := r
    exact ⟨_, .inl ⟨xs, s.sq, rfl⟩, by rw [isEmpty_rds t]; exact w⟩
  | ob a =>
    cases r
    rcases w with ⟨xs, e, w⟩ | ⟨kvs, e, w⟩
    · obtain ⟨us, h, t⟩ := m _ _ e
      exact ⟨_, .inl ⟨us, SqL.of h, rfl⟩, by rw [isEmpty_rds t]; exact w⟩
    · obtain ⟨gs, h, t, _⟩ := m _ _ e
      exact ⟨_, .inr (.inr ⟨gs, h, rfl⟩), by rw [isEmpty_kvs t]; exact w⟩
  | ty n => exact w.elim
  | any => exact w.elim
def wTru (w : DE) : DT := fun δ M Q E => w δ M (fun d M' => truD d M' Q) E
theorem qt_tru (ha : QE X W a wa) (he : ∀ whole, isTrue a X.env whole = (do let v ← whole; standAt a.pos; holding [v] (truthy v)) := by intro _; rfl) : QT X W a (wTru wa) :=
  pt_weak (pt_truth ha he) fun σ H Q ⟨H0, δ, M, Q', XX, p, w, k⟩ => ⟨H0, δ, M, _, XX, p, w, fun v H' d M' k1 r1 m1 w1 => let ⟨b, hb, q⟩ := tru_of r1 m1 w1; ⟨b, hb, k b H' M' k1 m1 q⟩⟩
/-! ### and, or, not as tests -/
def wAnd (t u : DT) : DT := fun δ M Q E => t δ M (fun c M1 => if c = true then u δ M1 Q E else Q false M1) E
def wOr (t u : DT) : DT := fun δ M Q E => t δ M (fun c M1 => if c = true then Q true M1 else u δ M1 Q E) E
def wNot (t : DT) : DT := fun δ M Q E => t δ M (fun c M1 => Q (!c) M1) E
theorem qw_and1 (ha : QT X W a ta) : QW X W (.BoolOp .And [a] pos) ta := pw_and1 ha
theorem qw_or1 (ha : QT X W a ta) : QW X W (.BoolOp .Or [a] pos) ta := pw_or1 ha
theorem qw_and (ha : QT X W a ta) (hb : QW X W (.BoolOp .And (b :: es) pos) tb) : QW X W (.BoolOp .And (a :: b :: es) pos) (wAnd ta tb) :=
  pw_weak (pw_and ha hb) fun σ H Q ⟨H0, δ, M, Q', XX, p, w, k⟩ => ⟨H0, δ, M, _, XX, p, w, fun c H1 M1 k1 m1 w1 => by
    cases c with
    | true =>
      rw [if_pos rfl] at w1 ⊢
      exact ⟨H0, δ, M1, Q', XX, p.step k1 m1, w1, fun b H' M' k2 => k b H' M' (k1.trans k2)⟩
    | false =>
      rw [if_neg Bool.false_ne_true] at w1 ⊢
      exact k _ _ _ k1 m1 w1⟩
theorem qw_or (ha : QT X W a ta) (hb : QW X W (.BoolOp .Or (b :: es) pos) tb) : QW X W (.BoolOp .Or (a :: b :: es) pos) (wOr ta tb) :=
  pw_weak (pw_or ha hb) fun σ H Q ⟨H0, δ, M, Q', XX, p, w, k⟩ => ⟨H0, δ, M, _, XX, p, w, fun c H1 M1 k1 m1 w1 => by
    cases c with
    | false =>
      rw [if_neg Bool.false_ne_true] at w1 ⊢
      exact ⟨H0, δ, M1, Q', XX, p.step k1 m1, w1, fun b H' M' k2 => k b H' M' (k1.trans k2)⟩
    | true =>
      rw [if_pos rfl] at w1 ⊢
      exact k _ _ _ k1 m1 w1⟩
theorem qt_bool (h : QW X W a ta) : QT X W a ta := h.pt
theorem qt_not (ha : QT X W a ta) : QT X W (.UnaryOp .Not a pos) (wNot ta) :=
  pt_weak (pt_not ha) fun σ H Q ⟨H0, δ, M, Q', XX, p, w, k⟩ => ⟨H0, δ, M, _, XX, p, w, fun c H1 M1 k1 m1 w1 => k _ _ _ k1 m1 w1⟩
/-! ### and, or, not as values -/
def wAndV (wa wb : DE) : DE := fun δ M Q E => wa δ M (fun d M1 => truD d M1 fun c M2 => if c = true then wb δ M2 Q E else Q d M2) E
def wOrV (wa wb : DE) : DE := fun δ M Q E => wa δ M (fun d M1 => truD d M1 fun c M2 => if c = true then Q d M2 else wb δ M2 Q E) E
def wNotV (wa : DE) : DE := fun δ M Q E => wa δ M (fun d M1 => truD d M1 fun c M2 => Q (.bl (!c)) M2) E
theorem qe_one {op} (h : QE X W a wa) : QE X W (.BoolOp op [a] pos) wa := pe_one h
theorem qe_and (ha : QE X W a wa) (hb : QE X W (.BoolOp .And (b :: es) pos) wb) : QE X W (.BoolOp .And (a :: b :: es) pos) (wAndV wa wb) :=
  pe_weak (pe_andT ha hb) fun σ H Q ⟨H0, δ, M, Q', XX, p, w, k⟩ => ⟨H0, δ, M, _, XX, p, w, fun v H1 d M1 k1 r1 m1 w1 => by
    obtain ⟨c, hc, q⟩ := tru_of r1 m1 w1
    refine ⟨c, hc, ?_⟩
    cases c with
    | true =>
      rw [if_pos rfl] at q ⊢
      exact ⟨H0, δ, M1, Q', XX, p.step k1 m1, q, fun v H' d M' k2 => k v H' d M' (k1.trans k2)⟩
    | false =>
      rw [if_neg Bool.false_ne_true] at q ⊢
      exact k _ _ _ _ k1 r1 m1 q⟩
theorem qe_not (ha : QE X W a wa) : QE X W (.UnaryOp .Not a pos) (wNotV wa) :=
  pe_weak (pe_notT ha) fun σ H Q ⟨H0, δ, M, Q', XX, p, w, k⟩ => ⟨H0, δ, M, _, XX, p, w, fun v H1 d M1 k1 r1 m1 w1 => let ⟨c, hc, q⟩ := tru_of r1 m1 w1; ⟨c, hc, k _ _ _ _ k1 RD.blI m1 q⟩⟩
def wIf (t : DT) (wa wb : DE) : DE := fun δ M Q E => t δ M (fun c M1 => if c = true then wa δ M1 Q E else wb δ M1 Q E) E
theorem qe_ifx (hc : QT X W c tc) (ha : QE X W a wa) (hb : QE X W b wb) : QE X W (.IfExp c a b pos) (wIf tc wa wb) :=
  pe_weak (pe_ifExp hc ha hb) fun σ H Q ⟨H0, δ, M, Q', XX, p, w, k⟩ => ⟨H0, δ, M, _, XX, p, w, fun c H1 M1 k1 m1 w1 => by
    cases c with
    | true =>
      rw [if_pos rfl] at w1 ⊢
      exact ⟨H0, δ, M1, Q', XX, p.step k1 m1, w1, fun v H' d M' k2 => k v H' d M' (k1.trans k2)⟩
    | false =>
      rw [if_neg Bool.false_ne_true] at w1 ⊢
      exact ⟨H0, δ, M1, Q', XX, p.step k1 m1, w1, fun v H' d M' k2 => k v H' d M' (k1.trans k2)⟩⟩
/-! ### rows of expressions, displays -/
def wNil : DA := fun _ M Q _ => Q [] M
def wCons (wa : DE) (ws : DA) : DA := fun δ M Q E => wa δ M (fun d M1 => ws δ M1 (fun ds M2 => Q (d :: ds) M2) E) E
theorem qa_nil : QA X W [] wNil := pa_weak pa_nil fun σ H Q ⟨H0, δ, M, Q', XX, p, w, k⟩ => k [] H [] M (TK.refl H) rfl p.rm w
theorem qa_cons (he : QE X W e wa) (hes : QA X W es ws) (na : starEach (e :: es) X.env = (false, eval e X.env) :: starEach es X.env := by rfl) : QA X W (e :: es) (wCons wa ws) :=
  pa_weak (pa_cons he hes na) fun σ H Q ⟨H0, δ, M, Q', XX, p, w, k⟩ => ⟨H0, δ, M, _, XX, p, w, fun v H1 d M1 k1 r1 m1 w1 => ⟨H0, δ, M1, _, XX, p.step k1 m1, w1, fun vs H2 ds M2 k2 r2 m2 w2 =>
    k (v :: vs) H2 (d :: ds) M2 (k1.trans k2) ⟨v, vs, rfl, RD.tk k2 r1, r2⟩ m2 w2⟩⟩
def wTup (ws : DA) : DE := fun δ M Q E => ws δ M (fun ds M1 => ds.length ≤ 1000 ∧ Q (.tup ds) M1) E
def wLst (ws : DA) : DE := fun δ M Q E => ws δ M (fun ds M1 => ds.length ≤ 1000 ∧ ∀ p, M1 p = none → Q (.ob p) (upm M1 p (.lst ds))) E
theorem small_line {n : Nat} (h : n ≤ 1000) : n ≤ sizeLine := Nat.le_of_lt (small1000 h)
theorem qe_tup {x1} (h : QA X W es ws) : QE X W (.Tuple es x1 pos) (wTup ws) :=
  pe_weak (pe_tup h) fun σ H Q ⟨H0, δ, M, Q', XX, p, w, k⟩ => ⟨H0, δ, M, _, XX, p, w, fun vs H1 ds M1 k1 r1 m1 w1 =>
    ⟨by rw [← r1.length]; exact small_line w1.1, fun q hq => k _ _ _ M1 (k1.trans (TK.new hq)) (RD.tupI (SqT.of upd_same) (RDs.tk (TK.new hq) r1)) (m1.skip hq) w1.2⟩⟩
theorem qe_lst (h : QA X W es ws) : QE X W (.List es pos) (wLst ws) :=
  pe_weak (pe_lst h) fun σ H Q ⟨H0, δ, M, Q', XX, p, w, k⟩ => ⟨H0, δ, M, _, XX, p, w, fun vs H1 ds M1 k1 r1 m1 w1 =>
    ⟨by rw [← r1.length]; exact small_line w1.1, fun q hq => k _ _ _ _ (k1.trans (TK.new hq)) RD.obI (m1.new hq (RO.lstI upd_same (RDs.tk (TK.new hq) r1))) (w1.2 q (m1.none hq))⟩⟩
/-! ### a[i] -/
theorem atI_rd {K : PySem.W.Frag} {H : Hp} {ds : List D} {vs : List V} {i : Int} {d : D} (r : RDs K H ds vs) (h : atI ds i = some d) : ∃ v, atI vs i = some v ∧ RD K H d v := by
  unfold atI at h ⊢
  rw [r.length] at h
  cases e : ixN vs.length i with
  | none => rw [e] at h; cases h
  | some j => rw [e] at h; exact r.get h
def ixD : D2 := fun d e M Q => match d, e with
  | .str z, .int i => z.length ≤ sizeLine ∧ ∃ c, atI z i = some c ∧ Q (.str [c]) M
  | .tup xs, .int i => ∃ x, atI xs i = some x ∧ Q x M
  | .fl xs, .int i => ∃ x, atI xs i = some x ∧ Q x M
  | .ob a, .int i => onL M a fun xs => ∃ x, atI xs i = some x ∧ Q x M
  | _, _ => False
theorem atI_mem {α : Type} {xs : List α} {i : Int} {v : α} (h : atI xs i = some v) : v ∈ xs := by
  obtain ⟨j, _, e, _⟩ := atI_get h
  exact List.mem_of_getElem? e
theorem o2_ix {K : PySem.W.Frag} : O2 K (rIx K) ixD := by
  intro x y d e H M Q Q' r1 r2 m w k
  unfold ixD at w
  split at w
  · obtain ⟨h1, c, h2, w⟩ := w
    obtain ⟨rfl, ok⟩ := r1
    cases r2
    exact .inr (.inr ⟨_, _, c, rfl, rfl, by rw [str_len]; exact h1, by simpa using h2, k _ H _ M (TK.refl H) (RD.strI fun c' hc => by
      have e : c' = c := by simpa using hc
      rw [e]; exact ok c (atI_mem h2)) m w⟩)
  · obtain ⟨x, h2, w⟩ := w
    obtain ⟨a, xs, rfl, s, t⟩ := r1
    cases r2
    obtain ⟨v, h3, rv⟩ := atI_rd t h2
    exact .inr (.inl ⟨a, xs, _, v, rfl, rfl, s, h3, k _ H _ M (TK.refl H) rv m w⟩)
  · obtain ⟨x, h2, w⟩ := w
    obtain ⟨a, xs, rfl, s, t⟩ := r1
    cases r2
    obtain ⟨v, h3, rv⟩ := atI_rd t h2
    exact .inl ⟨a, xs, _, v, rfl, rfl, s.sq, h3, k _ H _ M (TK.refl H) rv m w⟩
  · obtain ⟨xs, e1, x, h2, w⟩ := w
    cases r1
    cases r2
    obtain ⟨us, h, t⟩ := m _ _ e1
    obtain ⟨v, h3, rv⟩ := atI_rd t h2
    exact .inl ⟨_, us, _, v, rfl, rfl, SqL.of h, h3, k _ H _ M (TK.refl H) rv m w⟩
  · exact w.elim
theorem qe_ix (ha : QE X W a wa) (hb : QE X W b wb) (hs : PlainIx b := by intro _ _; rfl) : QE X W (.Subscript a b pos) (wOp ixD wa wb) :=
  pe_weak (pe_ix ix_seq ha hb hs) fun _ _ _ h => two o2_ix h
/-! ### a[i:j] -/
abbrev DO := Env → Mp → (Option Int → Mp → Prop) → XKD → Prop
def cO (K : PySem.W.Frag) (W : WX) (w : DO) : TO := fun σ H Q => ∃ H0 δ M Q' XX, Pre K W H0 σ H δ M XX ∧ w δ M Q' (fun x M => XX x δ M) ∧
  ∀ i H' M', TK H H' → RM K H' M' → Q' i M' → Q i H'
abbrev QO (X : Cx) (W : WX) (e : Option Expr) (w : DO) : Prop := PO X e (cO X.K W w)
def wNo : DO := fun _ M Q _ => Q none M
def wSo (wa : DE) : DO := fun δ M Q E => wa δ M (fun d M1 => ∃ i, d = .int i ∧ Q (some i) M1) E
theorem po_weak {e : Option Expr} {t t' : TO} (h : PO X e t) (k : ∀ σ H Q, t' σ H Q → t σ H Q) : PO X e t' := ⟨fun pins s σ H Q I q => h.run pins s σ H Q I (k σ H Q q)⟩
theorem qo_some (h : QE X W e wa) : QO X W (some e) (wSo wa) := po_weak (po_some h) fun σ H Q ⟨H0, δ, M, Q', XX, p, w, k⟩ => ⟨H0, δ, M, _, XX, p, w, fun v H1 d M1 k1 r1 m1 w1 => by
  obtain ⟨i, rfl, w1⟩ := w1
  exact ⟨i, r1, k _ _ _ k1 m1 w1⟩⟩
def cut {α : Type} (xs : List α) (lo hi : Option Int) : List α := (xs.drop (HT.sIx xs.length 0 lo)).take (HT.sIx xs.length xs.length hi - HT.sIx xs.length 0 lo)
def slD (d : D) (lo hi : Option Int) (M : Mp) (Q : KD) : Prop := match d with
  | .str z => z.length ≤ sizeLine ∧ Q (.str (cut z lo hi)) M
  | .tup xs => Q (.tup (cut xs lo hi)) M
  | .ob a => onL M a fun xs => ∀ p, M p = none → Q (.ob p) (upm M p (.lst (cut xs lo hi)))
  | _ => False
def wSl (wa : DE) (lo hi : DO) : DE := fun δ M Q E => wa δ M (fun d M1 => lo δ M1 (fun i M2 => hi δ M2 (fun j M3 => slD d i j M3 Q) E) E) E
def rSlAll (K : PySem.W.Frag) : V → Option Int → Option Int → Hp → VK → Prop := fun x lo hi H Q => rSlS x lo hi H Q ∨ rSlA K x lo hi H Q ∨ rSlL K x lo hi H Q
theorem cut_rds {K : PySem.W.Frag} {H : Hp} {ds : List D} {vs : List V} (lo hi : Option Int) (r : RDs K H ds vs) : RDs K H (cut ds lo hi) (cutV vs lo hi) := by
  unfold cut cutV
  rw [r.length]
  exact (r.drop _).take _
theorem cutS_of {z : Tx} (lo hi : Option Int) : cutS ⟨z.toArray⟩ lo hi = ⟨(cut z lo hi).toArray⟩ := by
  unfold cutS cut
  simp [Str.length]
theorem cut_sub {α : Type} {z : List α} {lo hi : Option Int} : ∀ c ∈ cut z lo hi, c ∈ z := fun c h => List.mem_of_mem_drop (List.mem_of_mem_take h)
theorem cut_whole {α : Type} {z : List α} {lo hi : Option Int} (h : HT.sIx z.length 0 lo = 0 ∧ HT.sIx z.length z.length hi = z.length) : cut z lo hi = z := by
  unfold cut; rw [h.1, h.2]; simp
theorem qe_sl {lo hi : Option Expr} {wl wh : DO} {p2 : Pos} (ha : QE X W a wa) (hl : QO X W lo wl) (hh : QO X W hi wh) : QE X W (.Subscript a (.Slice lo hi none p2) pos) (wSl wa wl wh) :=
  pe_weak (pe_slice (r := rSlAll X.K) (sl_str.or (sl_tupA.or sl_list)) ha hl hh) fun σ H Q ⟨H0, δ, M, Q', XX, p, w, k⟩ => by
    refine ⟨H0, δ, M, _, XX, p, w, fun v H1 d M1 k1 r1 m1 w1 => ⟨H0, δ, M1, _, XX, p.step k1 m1, w1, fun i H2 M2 k2 m2 w2 => ⟨H0, δ, M2, _, XX, (p.step k1 m1).step k2 m2, w2, fun j H3 M3 k3 m3 w3 => ?_⟩⟩⟩
    have r3 := RD.tk (k2.trans k3) r1
    have kk := fun v H' d M' (k4 : TK H3 H') => k v H' d M' (k1.trans (k2.trans (k3.trans k4)))
    unfold slD at w3
    split at w3
    · obtain ⟨rfl, ok⟩ := r3
      refine .inl ⟨_, rfl, by rw [str_len]; exact w3.1, ?_⟩
      rw [cutS_of]
      exact kk _ _ _ M3 (TK.refl _) (RD.strI (okc_sub ok cut_sub)) m3 w3.2
    · obtain ⟨a, xs, rfl, s, t⟩ := r3
      have tc := cut_rds i j t
      refine .inr (.inl ⟨a, xs, rfl, s, fun z => ?_, fun z q hq => ?_⟩)
      · rw [← t.length] at z
        rw [cut_whole z] at w3
        exact kk _ _ _ M3 (TK.refl _) (RD.tupI s t) m3 w3
      · exact kk _ _ _ M3 (TK.new hq) (RD.tupI (SqT.of upd_same) (RDs.tk (TK.new hq) tc)) (m3.skip hq) w3
    · cases r3
      obtain ⟨xs, e1, w3⟩ := w3
      obtain ⟨us, h, t⟩ := m3 _ _ e1
      exact .inr (.inr ⟨_, us, rfl, SqL.of h, fun q hq => kk _ _ _ _ (TK.new hq) RD.obI (m3.new hq (RO.lstI upd_same (RDs.tk (TK.new hq) (cut_rds i j t)))) (w3 q (m3.none hq))⟩)
    · exact w3.elim
end
end QL
namespace QL
open PySem PySem.Spec PyProof.Rows L2
/-! ### promises over data -/
abbrev SpD := List D → Mp → KD → XKD → Prop
def lsp (K : PySem.W.Frag) (sp : SpD) : Sp := fun vs H Q E => ∃ ds M Q' E', RDs K H ds vs ∧ RM K H M ∧ sp ds M Q' E' ∧ (∀ v H' d M', TK H H' → RD K H' d v → RM K H' M' → Q' d M' → Q v H') ∧
  (∀ x c od H' M', TK H H' → XR K H' x c od → RM K H' M' → E' x M' → E c od H')
abbrev FnD (P : Program) (w : World) (K : PySem.W.Frag) (mg : Str → Option Value) (base : Heap) (k : Nat) (f : Addr) (fd : FuncData) (ps : List Str) (sp : SpD) : Prop := FnOk P w K mg base (L2.CX P w) k f fd ps (lsp K sp)
/-- what may be forgotten at the end -/
def endR (Q : KD) : KD := fun d M' => ∃ M, Sub M M' ∧ Q d M
def endX (E : XKD) : XD → Env → Mp → Prop := fun x _ M' => ∃ M, Sub M M' ∧ E x M
def dStart (N : List Str) (ds : List D) : Env := ds.map some ++ List.replicate (N.length - ds.length) none
theorem rs_start {K : PySem.W.Frag} {H : Hp} {N : List Str} {ds : List D} {vs : List V} (r : RDs K H ds vs) : RS K H (dStart N ds) (L2.start N vs) := by
  unfold dStart L2.start
  have hl := r.length
  refine ⟨by simp [hl], fun i d e => ?_⟩
  by_cases hi : i < ds.length
  · rw [List.getElem?_append_left (by simpa using hi), List.getElem?_map] at e
    rw [List.getElem?_append_left (by simpa [hl] using (hl ▸ hi)), List.getElem?_map]
    cases q : ds[i]? with
    | none => rw [q] at e; cases e
    | some d' =>
      rw [q] at e
      cases e
      obtain ⟨v, e1, r1⟩ := r.get q
      exact ⟨v, by rw [e1]; rfl, r1⟩
  · rw [List.getElem?_append_right (by simpa using hi), List.getElem?_replicate] at e
    split at e <;> cases e
section
variable {P : Program} {w : World} {K : PySem.W.Frag} {mg : Str → Option Value} {base : Heap}
/-- THE RULE for a def over data -/
theorem fnD_of {x qual : Str} {st : Stmt} {f : Addr} {fd : FuncData} {N ps : List Str} {k : Nat} {sp : SpD} {wb : DS} (F : Fun K x qual st f fd) (S : FnScope N ps (defScope st)) (len : ∀ ds M Q E, sp ds M Q E → ds.length = ps.length)
    (body : ∀ (cdv : Value) (A : Around) (outer : List PySem.Env) (s : Shared) (H : Hp) (E : XK), Room k (A.deeper (envOfC qual (defScope st) s.heap.objs.size f cdv)) →
      QSs (cxOf (L2.CX P w) P w K mg base N qual (defScope st) f cdv A outer s H E) (fun c od _ H => E c od H) (defBody st) wb)
    (go : ∀ (ds : List D) (M : Mp) (Q : KD) (E : XKD), sp ds M Q E → wb { nx := fun _ M' => endR Q .non M', rt := endR Q, xx := endX E } (dStart N ds) M) : FnD P w K mg base (k + 1) f fd ps sp := by
  refine F.okX S (fun vs H Q E h => ?_) (fun cdv A outer s H vs Q E hr h => ?_)
  · obtain ⟨ds, M, Q', E', a, _, c, _⟩ := h
    rw [← a.length]; exact len _ _ _ _ c
  · obtain ⟨ds, M, Q', E', a, b, c, kr, kx⟩ := h
    refine ⟨_, body cdv A outer s H E hr, H, dStart N ds, M, { nx := fun _ M' => endR Q' .non M', rt := endR Q', xx := endX E' }, ⟨TK.refl H, fun x c od σ H' δ M' tk xr rs rm hx => ?_, rs_start a, b⟩, go ds M Q' E' c, ⟨?_, ?_, ?_, ?_⟩⟩
    · obtain ⟨M0, s0, q⟩ := hx
      exact kx x c od H' M0 tk xr (rm.sub s0) q
    · rintro σ H' δ M' tk rs rm ⟨M0, s0, q⟩
      exact kr _ _ _ M0 tk RD.nonI (rm.sub s0) q
    · rintro v H' d M' tk rd rm ⟨M0, s0, q⟩
      exact kr _ _ _ M0 tk rd (rm.sub s0) q
    · rintro σ H' δ M' tk rs rm q; exact q
    · rintro σ H' δ M' tk rs rm q; exact q
end
section
variable {X : Cx} {W : WX} {a b c e o : Expr} {es : List Expr} {wa wb wo : DE} {ws : DA} {pos : Pos}
/-! ### calls of built-in functions and types -/
abbrev D1L := List D → Mp → KD → Prop
def OL (K : PySem.W.Frag) (r : List V → Hp → VK → Prop) (rd : D1L) : Prop := ∀ (xs : List V) (ds : List D) (H : Hp) (M : Mp) (Q : VK) (Q' : KD), RDs K H ds xs → RM K H M → rd ds M Q' →
  (∀ v H' d' M', TK H H' → RD K H' d' v → RM K H' M' → Q' d' M' → Q v H') → r xs H Q
def wApp (rd : D1L) (ws : DA) : DE := fun δ M Q E => ws δ M (fun ds M1 => rd ds M1 Q) E
theorem app_of {K : PySem.W.Frag} {σ : L2.St} {H : Hp} {Q : VK} {r : List V → Hp → VK → Prop} {rd : D1L} (o : OL K r rd) (h : cE K W (wApp rd ws) σ H Q) : tCB r (cA K W ws) σ H Q := by
  obtain ⟨H0, δ, M, Q', XX, p, w, k⟩ := h
  exact ⟨H0, δ, M, _, XX, p, w, fun vs H1 ds M1 k1 r1 m1 w1 => o vs ds H1 M1 Q Q' r1 m1 w1 fun v H' d' M' k2 => k v H' d' M' (k1.trans k2)⟩
theorem qe_callB {id : String} {x : Str} {p : Pos} {r : List V → Hp → VK → Prop} {rd : D1L} (hc : CallR X (.builtin id) r) (o : OL X.K r rd) (hg : Gl X x) (hm : X.mg x = none) (hv : bootBuiltins x = some (.builtin id)) (ha : QA X W (e :: es) ws) (hn : x ≠ "__name__" := by decide +kernel) (hdb : (x == ("__debug__" : Str)) = false := by decide +kernel)
    (he : starEach (e :: es) X.env = (false, eval e X.env) :: starEach es X.env := by rfl) (hpl : (backTo pos (starEach es X.env)).any (·.1) = false := by rfl) : QE X W (.Call (.Name x p) (e :: es) [] pos) (wApp rd ws) :=
  pe_weak (pe_callB hc hg hm hv ha hn hdb he hpl) fun _ _ _ h => app_of o h
theorem qe_callTy {T : String} {x : Str} {p : Pos} {r : List V → Hp → VK → Prop} {rd : D1L} (hc : CallR X (.type T) r) (o : OL X.K r rd) (hg : Gl X x) (hm : X.mg x = none) (hv : bootBuiltins x = some (.type T)) (ha : QA X W (e :: es) ws) (hn : x ≠ "__name__" := by decide +kernel) (hdb : (x == ("__debug__" : Str)) = false := by decide +kernel)
    (he : starEach (e :: es) X.env = (false, eval e X.env) :: starEach es X.env := by rfl) (hpl : (backTo pos (starEach es X.env)).any (·.1) = false := by rfl) : QE X W (.Call (.Name x p) (e :: es) [] pos) (wApp rd ws) :=
  pe_weak (pe_callTy hc hg hm hv ha hn hdb he hpl) fun _ _ _ h => app_of o h
def lenD : D1L := fun ds M Q => match ds with
  | [.str s] => s.length ≤ sizeLine ∧ Q (.int s.length) M
  | [.tup xs] => Q (.int xs.length) M
  | [.fl xs] => Q (.int xs.length) M
  | [.ob a] => onL M a fun xs => Q (.int xs.length) M
  | _ => False
theorem rds1 {K : PySem.W.Frag} {H : Hp} {d : D} {xs : List V} (r : RDs K H [d] xs) : ∃ v, xs = [v] ∧ RD K H d v := by
  obtain ⟨v, vs, rfl, a, b⟩ := r
  cases b
  exact ⟨v, rfl, a⟩
theorem rds2 {K : PySem.W.Frag} {H : Hp} {d e : D} {xs : List V} (r : RDs K H [d, e] xs) : ∃ v u, xs = [v, u] ∧ RD K H d v ∧ RD K H e u := by
  obtain ⟨v, vs, rfl, a, b⟩ := r
  obtain ⟨u, rfl, c⟩ := rds1 b
  exact ⟨v, u, rfl, a, c⟩
theorem ol_len {K : PySem.W.Frag} : OL K (fun xs H Q => ∃ x n, xs = [x] ∧ LenV K x H n ∧ Q (.int n) H) lenD := by
  intro xs ds H M Q Q' r m w k
  unfold lenD at w
  split at w
  · obtain ⟨v, rfl, rfl, _⟩ := rds1 r
    exact ⟨_, _, rfl, ⟨by rw [str_len]; exact w.1, rfl⟩, k _ H _ M (TK.refl H) (by rw [str_len]; exact RD.intI) m w.2⟩
  · obtain ⟨v, rfl, ⟨a, us, rfl, s, t⟩⟩ := rds1 r
    exact ⟨_, _, rfl, .inr ⟨us, s, rfl⟩, k _ H _ M (TK.refl H) (by rw [← t.length]; exact RD.intI) m w⟩
  · obtain ⟨v, rfl, ⟨a, us, rfl, s, t⟩⟩ := rds1 r
    exact ⟨_, _, rfl, .inl ⟨us, s.sq, rfl⟩, k _ H _ M (TK.refl H) (by rw [← t.length]; exact RD.intI) m w⟩
  · obtain ⟨v, rfl, rfl⟩ := rds1 r
    obtain ⟨xs, e1, w⟩ := w
    obtain ⟨us, h, t⟩ := m _ _ e1
    exact ⟨_, _, rfl, .inl ⟨us, SqL.of h, rfl⟩, k _ H _ M (TK.refl H) (by rw [← t.length]; exact RD.intI) m w⟩
  · exact w.elim
theorem qe_len {p : Pos} (hg : Gl X "len") (hm : X.mg "len" = none) (ha : QE X W e wa) (he : starEach [e] X.env = (false, eval e X.env) :: starEach [] X.env := by rfl) : QE X W (.Call (.Name "len" p) [e] [] pos) (wApp lenD (wCons wa wNil)) :=
  qe_callB call_len ol_len hg hm PySem.boot_len (qa_cons ha qa_nil he) (he := he)
def absD : D1L := fun ds M Q => match ds with
  | [.int i] => Q (.int (if i < 0 then -i else i)) M
  | _ => False
theorem ol_abs {K : PySem.W.Frag} : OL K (fun xs H Q => ∃ i, xs = [.int i] ∧ Q (.int (if i < 0 then -i else i)) H) absD := by
  intro xs ds H M Q Q' r m w k
  unfold absD at w
  split at w
  · obtain ⟨v, rfl, rfl⟩ := rds1 r
    exact ⟨_, rfl, k _ H _ M (TK.refl H) RD.intI m w⟩
  · exact w.elim
def maxD : D1L := fun ds M Q => match ds with
  | [.int i, .int j] => Q (.int (max i j)) M
  | _ => False
def minD : D1L := fun ds M Q => match ds with
  | [.int i, .int j] => Q (.int (min i j)) M
  | _ => False
theorem ol_max {K : PySem.W.Frag} : OL K (fun xs H Q => ∃ i j, xs = [.int i, .int j] ∧ Q (.int (if j > i then j else i)) H) maxD := by
  intro xs ds H M Q Q' r m w k
  unfold maxD at w
  split at w
  · obtain ⟨v, u, rfl, rfl, rfl⟩ := rds2 r
    rename_i i j
    have e : (if j > i then j else i) = max i j := by split <;> omega
    exact ⟨_, _, rfl, k _ H _ M (TK.refl H) (by rw [e]; exact RD.intI) m w⟩
  · exact w.elim
/-- int(i), int(b), int(text) -/
def intOf : D1L := fun ds M Q => match ds with
  | [.int i] => Q (.int i) M
  | [.bl b] => Q (.int (if b then 1 else 0)) M
  | [.str s] => s.length ≤ 640 ∧ ∃ n, PySem.intText? ⟨s.toArray⟩ = some n ∧ Q (.int n) M
  | _ => False
def rIntAll : List V → Hp → VK → Prop := fun xs H Q => ((∃ i, xs = [.int i] ∧ Q (.int i) H) ∨ ∃ k, xs = [.bl k] ∧ Q (.int (if k then 1 else 0)) H) ∨ (∃ a n, xs = [.str a] ∧ PySem.intText? a = some n ∧ a.length ≤ 640 ∧ Q (.int n) H)
theorem callr_or {f : Value} {r r' : List V → Hp → VK → Prop} (h : CallR X f r) (h' : CallR X f r') : CallR X f (fun xs H Q => r xs H Q ∨ r' xs H Q) := by
  intro pins s σ H xs us Q I rs q
  rcases q with q | q
  · exact h pins s σ H xs us Q I rs q
  · exact h' pins s σ H xs us Q I rs q
theorem call_intAll : CallR X (.type "int") rIntAll := callr_or call_int1 call_int_str
theorem ol_int {K : PySem.W.Frag} : OL K rIntAll intOf := by
  intro xs ds H M Q Q' r m w k
  unfold intOf at w
  split at w
  · obtain ⟨v, rfl, rfl⟩ := rds1 r
    exact .inl (.inl ⟨_, rfl, k _ H _ M (TK.refl H) RD.intI m w⟩)
  · obtain ⟨v, rfl, rfl⟩ := rds1 r
    exact .inl (.inr ⟨_, rfl, k _ H _ M (TK.refl H) RD.intI m w⟩)
  · obtain ⟨v, rfl, rfl, _⟩ := rds1 r
    obtain ⟨h1, n, h2, w⟩ := w
    exact .inr ⟨_, n, rfl, h2, by rw [str_len]; exact h1, k _ H _ M (TK.refl H) RD.intI m w⟩
  · exact w.elim
/-- str(i), str(text) -/
def strOf : D1L := fun ds M Q => match ds with
  | [.int i] => i.natAbs < 2 ^ 1000 ∧ Q (.str (tx (toString i))) M
  | [.str s] => Q (.str s) M
  | _ => False
def rStrAll : List V → Hp → VK → Prop := fun xs H Q => (∃ i, xs = [.int i] ∧ i.natAbs.log2 < 1920 ∧ Q (.str (toString i)) H) ∨ ∃ a, xs = [.str a] ∧ Q (.str a) H
theorem call_strAll : CallR X (.type "str") rStrAll := callr_or call_str_int SkE.call_str_str
theorem log_small {n : Nat} (h : n < 2 ^ 1000) : n.log2 < 1920 := by
  by_cases z : n = 0
  · subst z; decide
  · have := (Nat.log2_lt z).mpr h
    omega
theorem ol_str {K : PySem.W.Frag} : OL K rStrAll strOf := by
  intro xs ds H M Q Q' r m w k
  unfold strOf at w
  split at w
  · obtain ⟨v, rfl, rfl⟩ := rds1 r
    refine .inl ⟨_, rfl, log_small w.1, k _ H _ M (TK.refl H) ?_ m w.2⟩
    rw [str_of]; exact RD.strI (okc_tx _)
  · obtain ⟨v, rfl, rfl, ok⟩ := rds1 r
    exact .inr ⟨_, rfl, k _ H _ M (TK.refl H) (RD.strI ok) m w⟩
  · exact w.elim
/-! ### methods of built-in types -/
abbrev DMt := D → List D → Mp → KD → Prop
def OM (K : PySem.W.Frag) (r : V → List V → Hp → VK → Prop) (rd : DMt) : Prop := ∀ (x : V) (xs : List V) (d : D) (ds : List D) (H : Hp) (M : Mp) (Q : VK) (Q' : KD), RD K H d x → RDs K H ds xs → RM K H M → rd d ds M Q' →
  (∀ v H' d' M', TK H H' → RD K H' d' v → RM K H' M' → Q' d' M' → Q v H') → r x xs H Q
/-- of that type -/
def isTy (T : String) (d : D) (M : Mp) : Prop := match d with
  | .str _ => T = "str"
  | .ob a => (T = "list" ∧ ∃ xs, M a = some (.lst xs)) ∨ (T = "dict" ∧ ((∃ kvs, M a = some (.dic kvs)) ∨ ∃ kvs, M a = some (.dit kvs)))
  | _ => False
theorem isTy_list {a : Addr} {M : Mp} : isTy "list" (.ob a) M = ∃ xs, M a = some (.lst xs) := by
  apply propext
  refine ⟨fun h => ?_, fun h => .inl ⟨rfl, h⟩⟩
  rcases h with ⟨_, h⟩ | ⟨h, _⟩
  · exact h
  · exact absurd h (by decide)
theorem isTy_str {s : Tx} {M : Mp} : isTy "str" (.str s) M = True := eq_true rfl
theorem isTy_dict {a : Addr} {M : Mp} : isTy "dict" (.ob a) M = ((∃ kvs, M a = some (.dic kvs)) ∨ ∃ kvs, M a = some (.dit kvs)) := by
  apply propext
  refine ⟨fun h => ?_, fun h => .inr ⟨rfl, h⟩⟩
  rcases h with ⟨h, _⟩ | ⟨_, h⟩
  · exact absurd h (by decide)
  · exact h
theorem tyV_of {K : PySem.W.Frag} {H : Hp} {M : Mp} {T : String} {d : D} {x : V} (r : RD K H d x) (m : RM K H M) (h : isTy T d M) : tyV K T x H := by
  unfold isTy at h
  split at h
  · obtain ⟨rfl, _⟩ := r; exact h
  · cases r
    rcases h with ⟨rfl, xs, e⟩ | ⟨rfl, ⟨xs, e⟩ | ⟨xs, e⟩⟩
    · obtain ⟨us, h, t⟩ := m _ _ e
      exact .inl ⟨rfl, us, SqL.of h⟩
    · obtain ⟨us, h, t⟩ := m _ _ e
      exact .inr (.inr (.inl ⟨rfl, .inl ⟨us, h⟩⟩))
    · obtain ⟨us, h, t⟩ := m _ _ e
      exact .inr (.inr (.inl ⟨rfl, .inr ⟨us, h⟩⟩))
  · exact h.elim
def wBM (T : String) (rd : DMt) (wo : DE) (ws : DA) : DE := fun δ M Q E => wo δ M (fun d M1 => isTy T d M1 ∧ ws δ M1 (fun ds M2 => rd d ds M2 Q) E) E
def wBM0 (T : String) (rd : DMt) (wo : DE) : DE := fun δ M Q E => wo δ M (fun d M1 => isTy T d M1 ∧ rd d [] M1 Q) E
theorem qe_bm {T id : String} {name : Str} {apos : Pos} {r : V → List V → Hp → VK → Prop} {rd : DMt} (pa : PlainAttrs T) (slot : Slot T name id) (hty : typeOf (.builtin id) = pure (.type "method_descriptor")) (hm : MtR X id r) (om : OM X.K r rd) (ho : QE X W o wo) (ha : QA X W (e :: es) ws)
    (hbase : attributeBase o name X.env (eval o X.env) = eval o X.env := by rfl)
    (hfew : ((backTo pos (starEach (e :: es) X.env)).all (fun x => !x.1) && (backToKw pos (keywordEach [] X.env)).all (fun x => x.1.isSome)
      && decide ((e :: es).length + ([] : List Keyword).length + (if ([] : List Keyword).isEmpty then 0 else 1) < 30)) = true := by rfl)
    (hline : (apos.endLine == pos.line) = true := by rfl) (hs : starEach (e :: es) X.env = (false, eval e X.env) :: starEach es X.env := by rfl) (hplain : (backTo pos (starEach es X.env)).any (·.1) = false := by rfl) :
    QE X W (.Call (.Attribute o name apos) (e :: es) [] pos) (wBM T rd wo ws) :=
  pe_weak (pe_bm pa slot hty hm ho ha hbase hfew hline hs hplain) fun σ H Q ⟨H0, δ, M, Q', XX, p, w, k⟩ => ⟨H0, δ, M, _, XX, p, w, fun x H1 d M1 k1 r1 m1 w1 => ⟨tyV_of r1 m1 w1.1, H0, δ, M1, _, XX, p.step k1 m1, w1.2, fun xs H2 ds M2 k2 r2 m2 w2 =>
    om x xs d ds H2 M2 Q Q' (RD.tk k2 r1) r2 m2 w2 fun v H' d' M' k3 => k v H' d' M' (k1.trans (k2.trans k3))⟩⟩
theorem qe_bm0 {T id : String} {name : Str} {apos : Pos} {r : V → List V → Hp → VK → Prop} {rd : DMt} (pa : PlainAttrs T) (slot : Slot T name id) (hty : typeOf (.builtin id) = pure (.type "method_descriptor")) (hm : MtR X id r) (om : OM X.K r rd) (ho : QE X W o wo)
    (hbase : attributeBase o name X.env (eval o X.env) = eval o X.env := by rfl) (hline : (apos.endLine == pos.line) = true := by rfl) : QE X W (.Call (.Attribute o name apos) [] [] pos) (wBM0 T rd wo) :=
  pe_weak (pe_bm0 pa slot hty hm ho hbase hline) fun σ H Q ⟨H0, δ, M, Q', XX, p, w, k⟩ => ⟨H0, δ, M, _, XX, p, w, fun x H1 d M1 k1 r1 m1 w1 => ⟨tyV_of r1 m1 w1.1,
    om x [] d [] H1 M1 Q Q' r1 rfl m1 w1.2 fun v H' d' M' k2 => k v H' d' M' (k1.trans k2)⟩⟩
def appendD : DMt := fun d ds M Q => match d, ds with
  | .ob a, [x] => onL M a fun xs => xs.length < sizeLine ∧ Q .non (upm M a (.lst (xs ++ [x])))
  | _, _ => False
theorem notPerm_lst {xs : List V} : ¬ Perm (.lst xs) := fun z => z
theorem om_append {K : PySem.W.Frag} : OM K rAppend appendD := by
  intro x xs d ds H M Q Q' r1 r2 m w k
  unfold appendD at w
  split at w
  · cases r1
    obtain ⟨v, rfl, rv⟩ := rds1 r2
    obtain ⟨ys, e1, w⟩ := w
    obtain ⟨us, h, t⟩ := m _ _ e1
    have kp := TK.put (o := .lst (us ++ [v])) h notPerm_lst
    refine ⟨_, us, v, rfl, rfl, h, by rw [← t.length]; exact w.1, ?_⟩
    exact k _ _ _ _ kp RD.nonI (m.put h notPerm_lst (RO.lstI upd_same (RDs.tk kp (t.append (RDs.oneI rv))))) w.2
  · exact w.elim
theorem qe_append {apos : Pos} (ho : QE X W o wo) (ha : QE X W e wa) (he : starEach [e] X.env = (false, eval e X.env) :: starEach [] X.env := by rfl) (hbase : attributeBase o "append" X.env (eval o X.env) = eval o X.env := by rfl)
    (hfew : ((backTo pos (starEach [e] X.env)).all (fun x => !x.1) && (backToKw pos (keywordEach [] X.env)).all (fun x => x.1.isSome)
      && decide ([e].length + ([] : List Keyword).length + (if ([] : List Keyword).isEmpty then 0 else 1) < 30)) = true := by rfl)
    (hline : (apos.endLine == pos.line) = true := by rfl) : QE X W (.Call (.Attribute o "append" apos) [e] [] pos) (wBM "list" appendD wo (wCons wa wNil)) :=
  qe_bm PySem.F.plainAttrs_list PySem.F.slot_list_append PySem.F.type_list_append mt_append om_append ho (qa_cons ha qa_nil he) hbase hfew hline he
def extendD : DMt := fun d ds M Q => match d, ds with
  | .ob a, [.ob b] => onL M a fun xs => onL M b fun ys => xs.length + ys.length ≤ sizeLine ∧ Q .non (upm M a (.lst (xs ++ ys)))
  | _, _ => False
theorem om_extend {K : PySem.W.Frag} : OM K rExtend extendD := by
  intro x xs d ds H M Q Q' r1 r2 m w k
  unfold extendD at w
  split at w
  · cases r1
    obtain ⟨v, rfl, rv⟩ := rds1 r2
    cases rv
    obtain ⟨ys, e1, zs, e2, w⟩ := w
    obtain ⟨us, h, t⟩ := m _ _ e1
    obtain ⟨vs, h2, t2⟩ := m _ _ e2
    have kp := TK.put (o := .lst (us ++ vs)) h notPerm_lst
    refine ⟨_, _, us, vs, rfl, rfl, h, h2, by rw [← t.length, ← t2.length]; exact w.1, ?_⟩
    exact k _ _ _ _ kp RD.nonI (m.put h notPerm_lst (RO.lstI upd_same (RDs.tk kp (t.append t2)))) w.2
  · exact w.elim
theorem qe_extend {apos : Pos} (ho : QE X W o wo) (ha : QE X W e wa) (he : starEach [e] X.env = (false, eval e X.env) :: starEach [] X.env := by rfl) (hbase : attributeBase o "extend" X.env (eval o X.env) = eval o X.env := by rfl)
    (hfew : ((backTo pos (starEach [e] X.env)).all (fun x => !x.1) && (backToKw pos (keywordEach [] X.env)).all (fun x => x.1.isSome)
      && decide ([e].length + ([] : List Keyword).length + (if ([] : List Keyword).isEmpty then 0 else 1) < 30)) = true := by rfl)
    (hline : (apos.endLine == pos.line) = true := by rfl) : QE X W (.Call (.Attribute o "extend" apos) [e] [] pos) (wBM "list" extendD wo (wCons wa wNil)) :=
  qe_bm PySem.F.plainAttrs_list PySem.F.slot_list_extend PySem.F.type_list_extend mt_extend om_extend ho (qa_cons ha qa_nil he) hbase hfew hline he
/-! ### calls of defs -/
variable {k : Nat} {f C : Addr} {fd : FuncData} {ps : List Str} {sp : SpD} {x m : Str} {p apos : Pos}
def wCall (sp : SpD) (ws : DA) : DE := fun δ M Q E => ws δ M (fun ds M1 => sp ds M1 Q E) E
theorem call_of {σ : L2.St} {K : PySem.W.Frag} {H : Hp} {Q : VK} (h : cE K W (wCall sp ws) σ H Q) : tCallSD (lsp K sp) [] (WE W) (cA K W ws) σ H Q := by
  obtain ⟨H0, δ, M, Q', XX, p, w, kk⟩ := h
  refine ⟨H0, δ, M, _, XX, p, w, fun vs H1 ds M1 k1 r1 m1 w1 => ?_⟩
  show lsp K sp (vs ++ []) H1 Q (WE W σ)
  rw [List.append_nil]
  exact ⟨ds, M1, Q', _, r1, m1, w1, fun v H' d M' k2 => kk v H' d M' (k1.trans k2), fun x c od H' M' k2 xr m' q => p.lf x c od σ H' δ M' (p.tk.trans (k1.trans k2)) xr (p.rs.tk (k1.trans k2)) m' q⟩
theorem qe_call (tk : Takes X W) (F : FnD X.prog X.w X.K X.mg X.base k f fd ps sp) (hr : Room k X.A) (hg : Gl X x) (hm : X.mg x = some (.ref f)) (hk : PySem.W.keepIn X.K (.ref f) = true) (hb : Binds X.K fd ps [])
    (ha : QA X W (e :: es) ws) (hdb : (x == ("__debug__" : Str)) = false := by decide +kernel) (he : starEach (e :: es) X.env = (false, eval e X.env) :: starEach es X.env := by rfl) (hpl : (backTo pos (starEach es X.env)).any (·.1) = false := by rfl) :
    QE X W (.Call (.Name x p) (e :: es) [] pos) (wCall sp ws) :=
  pe_weak (pe_callSD F hr hg hm hk hb .nil (fun σ => passAt tk σ) ha hdb he hpl) fun _ _ _ h => call_of h
/-- o.m(..): the receiver is an instance of C -/
def wMeth (C : Addr) (m : Str) (sp : SpD) (wo : DE) (ws : DA) : DE := fun δ M Q E => wo δ M (fun d M1 => ∃ a fs, d = .ob a ∧ M1 a = some (.ins C fs) ∧ fs.lookup m = none ∧ ws δ M1 (fun ds M2 => sp (d :: ds) M2 Q E) E) E
def tMethS (C : Addr) (m : Str) (sp : Sp) (E : L2.St → XK) (ta : TE) (t : TA) : TE := fun σ H Q => ta σ H fun x H1 => ∃ a dx fs, x = .ref a ∧ H1 a = some (.ins C dx fs) ∧ fs.lookup m = none ∧
  t σ H1 fun vs H2 => sp (x :: vs) H2 Q (E σ)
theorem pe_methS' {CX : CXT} {sp : Sp} {ta : TE} {t : TA} {E : L2.St → XK} {pl : Sem Bool} (he : PE X o ta) (c : Cls X.K C) (hm : Meth X.K C m f) (F : FnOk X.prog X.w X.K X.mg X.base CX k f fd ps sp) (hr : Room k X.A) (hb : Binds X.K fd ps []) (hx : ∀ σ, PassesAt CX X σ (E σ)) (ha : PA X (e :: es) t)
    (hst : starEach (e :: es) X.env = (false, eval e X.env) :: starEach es X.env := by rfl) (hpl : (backTo pos (starEach es X.env)).any (·.1) = false := by rfl)
    (ht : eval (.Call (.Attribute o m apos) (e :: es) [] pos) X.env = (do
      let ov ← eval o X.env
      standAt apos.atName
      let (f, first) ← holding [ov] (getMethod ov m pl)
      callWith pos f first (backTo pos (starEach (e :: es) X.env)) (backToKw pos (keywordEach [] X.env))) := by rfl) :
    PE X (.Call (.Attribute o m apos) (e :: es) [] pos) (tMethS C m sp E ta t) := by
  refine ⟨fun pins s σ H Q I h => ?_⟩
  refine PySem.W.methodCall_KW (pl := pl) (thn (he.run pins s σ H _ I h) fun u s1 ⟨x, H1, I1, rx, a, dx, fs, ex, ea, l, q⟩ => ?_) ht
  subst ex
  obtain rfl : u = Value.ref a := rx
  refine getmeth_ok I1 ea c hm l ?_
  refine PySem.W.callWith_K (first := [.ref a]) (h₀ := X.base) I.ok.mod.kin hm.kp (thn (ha.run pos pins s1 σ H1 _ I1 q) fun us s2 ⟨vs, H2, I2, r, q2⟩ => ⟨I2.kIn, ?_⟩) hst hpl
  exact run_fnSD (us := .ref a :: us) (vs := .ref a :: vs) (dvs := []) F hr hb .nil (hx σ) I2 (.cons rfl r) (by rw [List.append_nil]; exact q2)
theorem pe_methS0' {CX : CXT} {sp : Sp} {ta : TE} {E : L2.St → XK} {pl : Sem Bool} (he : PE X o ta) (c : Cls X.K C) (hm : Meth X.K C m f) (F : FnOk X.prog X.w X.K X.mg X.base CX k f fd ps sp) (hr : Room k X.A) (hb : Binds X.K fd ps []) (hx : ∀ σ, PassesAt CX X σ (E σ))
    (ht : eval (.Call (.Attribute o m apos) [] [] pos) X.env = (do
      let ov ← eval o X.env
      standAt apos.atName
      let (f, first) ← holding [ov] (getMethod ov m pl)
      callWith pos f first (backTo pos (starEach [] X.env)) (backToKw pos (keywordEach [] X.env))) := by rfl) :
    PE X (.Call (.Attribute o m apos) [] [] pos) (tMethS C m sp E ta tNil) := by
  refine ⟨fun pins s σ H Q I h => ?_⟩
  refine PySem.W.methodCall_KW (pl := pl) (thn (he.run pins s σ H _ I h) fun u s1 ⟨x, H1, I1, rx, a, dx, fs, ex, ea, l, q⟩ => ?_) ht
  subst ex
  obtain rfl : u = Value.ref a := rx
  refine getmeth_ok I1 ea c hm l ?_
  exact PySem.W.callWith_K0 (first := [.ref a]) I1.kIn hm.kp (run_fnSD (us := [.ref a]) (vs := [.ref a]) (dvs := []) F hr hb .nil (hx σ) I1 (.cons rfl .nil) (by rw [List.append_nil]; exact q))
theorem meth_of {σ : L2.St} {K : PySem.W.Frag} {H : Hp} {Q : VK} (h : cE K W (wMeth C m sp wo ws) σ H Q) : tMethS C m (lsp K sp) (WE W) (cE K W wo) (cA K W ws) σ H Q := by
  obtain ⟨H0, δ, M, Q', XX, p, w, kk⟩ := h
  refine ⟨H0, δ, M, _, XX, p, w, fun v H1 d M1 k1 r1 m1 w1 => ?_⟩
  obtain ⟨a, fs, rfl, ea, l, w1⟩ := w1
  obtain ⟨dx, gs, e1, t1⟩ := m1 _ _ ea
  refine ⟨a, dx, gs, r1, e1, t1.lookup_none l, H0, δ, M1, _, XX, p.step k1 m1, w1, fun vs H2 ds M2 k2 r2 m2 w2 => ?_⟩
  exact ⟨.ob a :: ds, M2, Q', _, ⟨v, vs, rfl, r1, r2⟩, m2, w2, fun v H' d M' k3 => kk v H' d M' (k1.trans (k2.trans k3)), fun x c od H' M' k3 xr m' q => p.lf x c od σ H' δ M' (p.tk.trans (k1.trans (k2.trans k3))) xr (p.rs.tk (k1.trans (k2.trans k3))) m' q⟩
theorem qe_meth (pl : Sem Bool) (tk : Takes X W) (ho : QE X W o wo) (c : Cls X.K C) (hm : Meth X.K C m f) (F : FnD X.prog X.w X.K X.mg X.base k f fd ps sp) (hr : Room k X.A) (hb : Binds X.K fd ps []) (ha : QA X W (e :: es) ws)
    (hst : starEach (e :: es) X.env = (false, eval e X.env) :: starEach es X.env := by rfl) (hpl : (backTo pos (starEach es X.env)).any (·.1) = false := by rfl)
    (ht : eval (.Call (.Attribute o m apos) (e :: es) [] pos) X.env = (do
      let ov ← eval o X.env
      standAt apos.atName
      let (f, first) ← holding [ov] (getMethod ov m pl)
      callWith pos f first (backTo pos (starEach (e :: es) X.env)) (backToKw pos (keywordEach [] X.env))) := by rfl) : QE X W (.Call (.Attribute o m apos) (e :: es) [] pos) (wMeth C m sp wo ws) :=
  pe_weak (pe_methS' (pl := pl) ho c hm F hr hb (fun σ => passAt tk σ) ha hst hpl ht) fun _ _ _ h => meth_of h
theorem qe_meth0 (pl : Sem Bool) (tk : Takes X W) (ho : QE X W o wo) (c : Cls X.K C) (hm : Meth X.K C m f) (F : FnD X.prog X.w X.K X.mg X.base k f fd ps sp) (hr : Room k X.A) (hb : Binds X.K fd ps [])
    (ht : eval (.Call (.Attribute o m apos) [] [] pos) X.env = (do
      let ov ← eval o X.env
      standAt apos.atName
      let (f, first) ← holding [ov] (getMethod ov m pl)
      callWith pos f first (backTo pos (starEach [] X.env)) (backToKw pos (keywordEach [] X.env))) := by rfl) : QE X W (.Call (.Attribute o m apos) [] [] pos) (wMeth C m sp wo wNil) :=
  pe_weak (pe_methS0' (pl := pl) ho c hm F hr hb (fun σ => passAt tk σ) ht) fun σ H Q h => by
    obtain ⟨H0, δ, M, Q', XX, p, w, kk⟩ := h
    refine ⟨H0, δ, M, _, XX, p, w, fun v H1 d M1 k1 r1 m1 w1 => ?_⟩
    obtain ⟨a, fs, rfl, ea, l, w1⟩ := w1
    obtain ⟨dx, gs, e1, t1⟩ := m1 _ _ ea
    exact ⟨a, dx, gs, r1, e1, t1.lookup_none l, [.ob a], M1, Q', _, ⟨v, [], rfl, r1, rfl⟩, m1, w1, fun v H' d M' k3 => kk v H' d M' (k1.trans k3), fun x c od H' M' k3 xr m' q => p.lf x c od σ H' δ M' (p.tk.trans (k1.trans k3)) xr (p.rs.tk (k1.trans k3)) m' q⟩
/-! ### C(..) -/
def wMake (C : Addr) (sp : SpD) (ws : DA) : DE := fun δ M Q E => ws δ M (fun ds M1 => ∀ q, M1 q = none → sp (.ob q :: ds) (upm M1 q (.ins C [])) (fun d M2 => d = .non ∧ Q (.ob q) M2) E) E
theorem make_of {σ : L2.St} {K : PySem.W.Frag} {H : Hp} {Q : VK} {vs : List V} {ds : List D} {H0 H1 : Hp} {δ : Env} {M M1 : Mp} {XX : XD → Env → Mp → Prop} {Q' : KD} (p : Pre K W H0 σ H δ M XX) (k1 : TK H H1) (r1 : RDs K H1 ds vs) (m1 : RM K H1 M1)
    (kk : ∀ v H' d M', TK H H' → RD K H' d v → RM K H' M' → Q' d M' → Q v H') (w1 : ∀ q, M1 q = none → sp (.ob q :: ds) (upm M1 q (.ins C [])) (fun d M2 => d = .non ∧ Q' (.ob q) M2) (fun x M => XX x δ M)) :
    ∀ x dx, H1 x = none → H1 dx = none → dx ≠ x → lsp K sp (.ref x :: vs) (upd (upd H1 dx (.own x)) x (.ins C dx [])) (fun v H2 => v = .non ∧ Q (.ref x) H2) (WE W σ) := by
  intro x dx nx ndx ne
  have nx' : upd H1 dx (.own x) x = none := by rw [upd_ne (Ne.symm ne)]; exact nx
  have t1 : TK H1 (upd H1 dx (.own x)) := TK.new ndx
  have t2 : TK (upd H1 dx (.own x)) (upd (upd H1 dx (.own x)) x (.ins C dx [])) := TK.new nx'
  have m2 : RM K (upd H1 dx (.own x)) M1 := m1.skip ndx
  have m3 := m2.new (o := .ins C dx []) (m := .ins C []) nx' (RO.insI (gs := []) upd_same rfl)
  refine ⟨.ob x :: ds, _, _, _, ⟨.ref x, vs, rfl, RD.obI, RDs.tk (t1.trans t2) r1⟩, m3, w1 x (m1.none nx), fun v H' d M' k2 rd m' q => ?_, fun x c od H' M' k2 xr m' q => ?_⟩
  · obtain ⟨rfl, q⟩ := q
    exact ⟨rd, kk _ _ _ _ (k1.trans (t1.trans (t2.trans k2))) RD.obI m' q⟩
  · exact p.lf x c od σ H' δ M' (p.tk.trans (k1.trans (t1.trans (t2.trans k2)))) xr (p.rs.tk (k1.trans (t1.trans (t2.trans k2)))) m' q
theorem run_makeS {CX : CXT} {sp : Sp} {E : XK} {pins : List (Addr × Obj)} {σ : L2.St} {H : Hp} {s : Shared} {Q : VK} {us : List Value} {vs : List V} (M : Mk X.K C f) (F : FnOk X.prog X.w X.K X.mg X.base CX k f fd ps sp) (hr : Room (k + 1) X.A) (hb : Binds X.K fd ps [])
    (hx : PassesAt CX X σ E) (I : Inv X pins σ H s) (r : Vals vs us)
    (h : ∀ x dx, H x = none → H dx = none → dx ≠ x → sp (.ref x :: vs) (upd (upd H dx (.own x)) x (.ins C dx [])) (fun v H2 => v = .non ∧ Q (.ref x) H2) E) :
    wpAny (model X.prog X.w) X.A (call (.ref C) us) (EP X pins σ Q) X.xe s := by
  have hq := h (s.heap.objs.size + 1) s.heap.objs.size (I.hok.fresh (Nat.le_succ _)) (I.hok.fresh (Nat.le_refl _)) (Nat.ne_of_lt (Nat.lt_succ_self _))
  have I2 := Inv.made (C := C) I
  have r2 : Vals (V.ref (s.heap.objs.size + 1) :: vs) (Value.ref (s.heap.objs.size + 1) :: us) := .cons rfl r
  have hl : (Value.ref (s.heap.objs.size + 1) :: us ++ []).length = ps.length := by
    have e := r2.length
    rw [F.len _ _ _ _ hq] at e
    simpa using e.symm
  have bb := hb _ (Value.ref (s.heap.objs.size + 1) :: us) I2.kIn hl
  rw [List.append_nil] at bb
  refine wpAny_call (make_map (f := f) I.kIn M.makes M.init (beq_iff_eq.mp M.fn) (codeAny_mono (F.run _ X.stack _ _ ⟨Value.ref (s.heap.objs.size + 1) :: us, []⟩ (Value.ref (s.heap.objs.size + 1) :: us) _ _ E (hr.make C us [])
    (I2.env0.make C us []) bb r2 hq) fun r s' hq' => ?_))
  cases r with
  | error e => exact hx pins _ _ e s' I2 hq'
  | ok fl =>
    cases fl with
    | ret u =>
      obtain ⟨v, H', I3, rv, ev, q3⟩ := I2.after hq'
      subst ev
      exact ⟨rv, ⟨V.ref (s.heap.objs.size + 1), H', I3, rfl, q3⟩⟩
    | next => exact False.elim hq'
    | brk => exact False.elim hq'
    | cont => exact False.elim hq'
theorem qe_make (tk : Takes X W) (Mm : Mk X.K C f) (F : FnD X.prog X.w X.K X.mg X.base k f fd ps sp) (hr : Room (k + 1) X.A) (hg : Gl X x) (hm : X.mg x = some (.ref C)) (hb : Binds X.K fd ps [])
    (ha : QA X W (e :: es) ws) (hdb : (x == ("__debug__" : Str)) = false := by decide +kernel) (he : starEach (e :: es) X.env = (false, eval e X.env) :: starEach es X.env := by rfl) (hpl : (backTo pos (starEach es X.env)).any (·.1) = false := by rfl) :
    QE X W (.Call (.Name x p) (e :: es) [] pos) (wMake C sp ws) := by
  refine ⟨fun pins s σ H Q I h => ?_⟩
  obtain ⟨H0, δ, M, Q', XX, p, w, kk⟩ := h
  refine wpAny_Call_Name_kw (ld_glob I hg hm ?_ hdb)
  refine PySem.W.callWith_K (h₀ := X.base) I.ok.mod.kin Mm.kp (thn (ha.run pos pins s σ H (fun vs H1 => ∀ x dx, H1 x = none → H1 dx = none → dx ≠ x → lsp X.K sp (.ref x :: vs) (upd (upd H1 dx (.own x)) x (.ins C dx [])) (fun v H2 => v = .non ∧ Q (.ref x) H2) (WE W σ)) I
    ⟨H0, δ, M, _, XX, p, w, fun vs H1 ds M1 k1 r1 m1 w1 => make_of p k1 r1 m1 kk w1⟩) fun us s1 ⟨vs, H1, I1, r, q⟩ => ⟨I1.kIn, ?_⟩) he hpl
  exact run_makeS Mm F hr hb (passAt tk σ) I1 r q
/-! ### e.f -/
def wFld (C : Addr) (f : Str) (wo : DE) : DE := fun δ M Q E => wo δ M (fun d M1 => ∃ a fs x, d = .ob a ∧ M1 a = some (.ins C fs) ∧ fs.lookup f = some x ∧ Q x M1) E
theorem qe_fld {f : Str} (ho : QE X W e wo) (c : Cls X.K C) (n : NoAttr X.K C f) (hb : attributeBase e f X.env (eval e X.env) = eval e X.env := by rfl) : QE X W (.Attribute e f pos) (wFld C f wo) :=
  pe_weak (pe_fld ho hb) fun σ H Q ⟨H0, δ, M, Q', XX, p, w, k⟩ => ⟨H0, δ, M, _, XX, p, w, fun v H1 d M1 k1 r1 m1 w1 => by
    obtain ⟨a, fs, y, rfl, ea, l, q⟩ := w1
    obtain ⟨dx, gs, e1, t1⟩ := m1 _ _ ea
    obtain ⟨u, l2, ru⟩ := t1.lookup l
    exact ⟨a, C, dx, gs, u, r1, e1, c, n, l2, k u H1 y M1 k1 ru m1 q⟩⟩
end
end QL
namespace QL
open PySem PySem.Spec PyProof.Rows L2
section
variable {X : Cx} {W : WX} {a b c e o : Expr} {es : List Expr} {wa wb wo : DE} {ws : DA} {tc : DT} {pos : Pos} {st : Stmt} {sts : List Stmt} {w1 w2 : DS}
/-! ### blocks -/
def wNext : DS := fun D δ M => D.nx δ M
def wSeq (w1 w2 : DS) : DS := fun D δ M => w1 { D with nx := w2 D } δ M
theorem qss_nil : QSs X W [] wNext := pss_weak pss_nil fun D σ H ⟨H0, δ, M, D', p, w, le⟩ => le.nx σ H δ M (TK.refl H) p.rs p.rm w
theorem qss_cons (h1 : QS X W st w1) (h2 : QSs X W sts w2) : QSs X W (st :: sts) (wSeq w1 w2) :=
  pss_weak (pss_cons h1 h2) fun D σ H ⟨H0, δ, M, D', p, w, le⟩ => ⟨H0, δ, M, { D' with nx := w2 D' }, ⟨p.tk, p.lf, p.rs, p.rm⟩, w, ⟨fun σ' H' δ' M' k rs rm q => ⟨H0, δ', M', D', ⟨p.tk.trans k, p.lf, rs, rm⟩, q, le.tk k⟩, le.rt, le.bk, le.ct⟩⟩
theorem qss_one (h1 : QS X W st w1) : QSs X W [st] w1 := pss_one h1
def wBrk : DS := fun D δ M => D.bk δ M
def wCnt : DS := fun D δ M => D.ct δ M
def wEx (we : DE) : DS := fun D δ M => we δ M (fun _ M1 => D.nx δ M1) (fun x M => D.xx x δ M)
theorem qs_expr (he : QE X W e wa) (hs : swapsWith e none pos.line X.env = pure false := by rfl) : QS X W (.Expr e pos) (wEx wa) :=
  ps_weak (ps_expr he hs) fun D σ H ⟨H0, δ, M, D', p, w, le⟩ => ⟨H0, δ, M, _, D'.xx, p, w, fun v H' d M' k rd rm q => le.nx σ H' δ M' k (p.rs.tk k) rm q⟩
def wRet (we : DE) : DS := fun D δ M => we δ M D.rt (fun x M => D.xx x δ M)
theorem qs_ret (he : QE X W e wa) : QS X W (.Return (some e) pos) (wRet wa) :=
  ps_weak (ps_ret he) fun D σ H ⟨H0, δ, M, D', p, w, le⟩ => ⟨H0, δ, M, _, D'.xx, p, w, fun v H' d M' k rd rm q => le.rt v H' d M' k rd rm q⟩
def wRetN : DS := fun D _ M => D.rt .non M
def wIfS (t : DT) (w1 w2 : DS) : DS := fun D δ M => t δ M (fun b M1 => if b = true then w1 D δ M1 else w2 D δ M1) (fun x M => D.xx x δ M)
theorem qs_if {sts2 : List Stmt} (hc : QT X W c tc) (h1 : QSs X W sts w1) (h2 : QSs X W sts2 w2) : QS X W (.If c sts sts2 pos) (wIfS tc w1 w2) :=
  ps_weak (ps_if hc h1 h2) fun D σ H ⟨H0, δ, M, D', p, w, le⟩ => ⟨H0, δ, M, _, D'.xx, p, w, fun b H' M' k rm q => by
    cases b with
    | true =>
      rw [if_pos rfl] at q ⊢
      exact ⟨H0, δ, M', D', p.step k rm, q, le.tk k⟩
    | false =>
      rw [if_neg Bool.false_ne_true] at q ⊢
      exact ⟨H0, δ, M', D', p.step k rm, q, le.tk k⟩⟩
/-! ### targets -/
abbrev DG := D → Env → Mp → (Env → Mp → Prop) → Prop
abbrev DGs := List D → Env → Mp → (Env → Mp → Prop) → Prop
/-- vs: the slots that a target stores to -/
def cG (K : PySem.W.Frag) (vs : List Nat) (w : DG) : TG := fun v σ H Q => ∃ δ M d Q', RS K H δ σ ∧ RM K H M ∧ RD K H d v ∧ w d δ M Q' ∧ ∀ σ' H' δ' M', TK H H' → RS K H' δ' σ' → RM K H' M' → wipe σ' vs = wipe σ vs → Q' δ' M' → Q σ' H'
def cGs (K : PySem.W.Frag) (vs : List Nat) (w : DGs) : TGs := fun us σ H Q => ∃ δ M ds Q', RS K H δ σ ∧ RM K H M ∧ RDs K H ds us ∧ w ds δ M Q' ∧ ∀ σ' H' δ' M', TK H H' → RS K H' δ' σ' → RM K H' M' → wipe σ' vs = wipe σ vs → Q' δ' M' → Q σ' H'
abbrev QG (X : Cx) (vs : List Nat) (e : Expr) (w : DG) : Prop := PG X e (cG X.K vs w)
abbrev QGs (X : Cx) (vs : List Nat) (es : List Expr) (w : DGs) : Prop := PGs X es (cGs X.K vs w)
theorem wipe_set {σ : L2.St} {i : Nat} {o : Option V} : ∀ {vs : List Nat}, i ∈ vs → wipe (σ.set i o) vs = wipe σ vs
  | [], h => by cases h
  | v :: vs, h => by
    show (wipe (σ.set i o) vs).set v none = (wipe σ vs).set v none
    by_cases hv : i ∈ vs
    · rw [wipe_set hv]
    · have e : i = v := by simpa [hv] using h
      subst e
      have z : ∀ (l : List Nat), i ∉ l → wipe (σ.set i o) l = (wipe σ l).set i o := by
        intro l
        induction l with
        | nil => intro _; rfl
        | cons a l ih =>
          intro hl
          have h1 : i ≠ a := fun e => hl (by simp [e])
          have h2 : i ∉ l := fun e => hl (by simp [e])
          show (wipe (σ.set i o) l).set a none = ((wipe σ l).set a none).set i o
          rw [ih h2, List.set_comm _ _ h1]
      rw [z vs hv, List.set_set]
theorem pg_weak {e : Expr} {t t' : TG} (h : PG X e t) (k : ∀ v σ H Q, t' v σ H Q → t v σ H Q) : PG X e t' := ⟨fun pins s σ H v u Q I r q => h.run pins s σ H v u Q I r (k _ _ _ _ q)⟩
theorem pgs_weak {e : List Expr} {t t' : TGs} (h : PGs X e t) (k : ∀ v σ H Q, t' v σ H Q → t v σ H Q) : PGs X e t' := ⟨fun pins s σ H v u Q I r q => h.run pins s σ H v u Q I r (k _ _ _ _ q)⟩
def gN (i : Nat) : DG := fun d δ M Q => Q (δ.set i (some d)) M
theorem qg_name {vs : List Nat} (i : Nat) {x : Str} (hN : X.N.Nodup) (hi : X.N[i]? = some x := by rfl) (hx : Loc X.env.scope x := by first | exact Or.inl rfl | exact Or.inr rfl) (hf : X.fn x = true ∨ X.env.scope.names.lookup x = some .local := by first | exact .inl rfl | exact .inr rfl | assumption) (hv : i ∈ vs := by decide) : QG X vs (.Name x pos) (gN i) :=
  pg_weak (pg_name hN hi hx hf) fun v σ H Q ⟨δ, M, d, Q', rs, rm, rd, w, k⟩ => k _ H _ M (TK.refl H) (rs.set i rd) rm (wipe_set hv) w
def gsN : DGs := fun ds δ M Q => ds = [] ∧ Q δ M
def gsC (t : DG) (u : DGs) : DGs := fun ds δ M Q => match ds with
  | d :: r => t d δ M fun δ' M' => u r δ' M' Q
  | [] => False
theorem qgs_nil {vs : List Nat} : QGs X vs [] gsN := pgs_weak pgs_nil fun v σ H Q ⟨δ, M, ds, Q', rs, rm, rd, w, k⟩ => by
  obtain ⟨rfl, w⟩ := w
  cases rd
  exact ⟨rfl, k _ _ _ _ (TK.refl H) rs rm rfl w⟩
theorem qgs_cons {vs : List Nat} {t : DG} {u : DGs} (h1 : QG X vs e t) (h2 : QGs X vs es u) (hs : (assignEach (e :: es) X.env).map (·.2) = assign e X.env :: (assignEach es X.env).map (·.2) := by rfl) : QGs X vs (e :: es) (gsC t u) :=
  pgs_weak (pgs_cons h1 h2 hs) fun v σ H Q ⟨δ, M, ds, Q', rs, rm, rd, w, k⟩ => by
    cases ds with
    | nil => exact w.elim
    | cons d ds =>
      obtain ⟨x, xs, rfl, r1, r2⟩ := rd
      exact ⟨x, xs, rfl, δ, M, d, _, rs, rm, r1, w, fun σ' H' δ' M' k1 rs1 rm1 z1 q => ⟨δ', M', ds, Q', rs1, rm1, RDs.tk k1 r2, q, fun σ2 H2 δ2 M2 k2 rs2 rm2 z2 => k σ2 H2 δ2 M2 (k1.trans k2) rs2 rm2 (z2.trans z1)⟩⟩
def gT (t : DGs) : DG := fun d δ M Q => match d with
  | .tup xs => t xs δ M Q
  | _ => False
theorem qg_tup {vs : List Nat} {k : Nat} {t : DGs} {n : Nat} (hc : X.calm = true) (h : QGs X vs es t) (hl : ∀ ds δ M Q, t ds δ M Q → ds.length = n) (hn : (assignEach es X.env).length = n := by rfl) (hst : (assignEach es X.env).findIdx? (·.1) = none := by rfl) : QG X vs (.Tuple es k pos) (gT t) :=
  pg_weak (pg_tup hc h hn hst) fun v σ H Q ⟨δ, M, d, Q', rs, rm, rd, w, kk⟩ => by
    cases d with
    | tup ds =>
      obtain ⟨p, xs, rfl, s, r⟩ := rd
      exact ⟨p, xs, rfl, s, by rw [← r.length]; exact hl _ _ _ _ w, δ, M, ds, Q', rs, rm, r, w, kk⟩
    | _ => exact w.elim
theorem gs_len0 : ∀ ds δ M Q, gsN ds δ M Q → ds.length = 0 := fun ds δ M Q h => by rw [h.1]; rfl
/-- a target list's length -/
structure QGn (X : Cx) (vs : List Nat) (es : List Expr) (t : DGs) (n : Nat) : Prop where
  q : QGs X vs es t
  len : ∀ ds δ M (Q : Env → Mp → Prop), t ds δ M Q → ds.length = n
theorem qgn_nil {vs : List Nat} : QGn X vs [] gsN 0 := ⟨qgs_nil, gs_len0⟩
def DG.Lo (t : DG) : Prop := ∀ d δ M (Q : Env → Mp → Prop), t d δ M Q → ∃ δ' M', Q δ' M'
theorem gN_lo {i : Nat} : DG.Lo (gN i) := fun d δ M Q h => ⟨_, _, h⟩
theorem qgn_cons {vs : List Nat} {t : DG} {u : DGs} {n : Nat} (h1 : QG X vs e t) (lo : DG.Lo t) (h2 : QGn X vs es u n) (hs : (assignEach (e :: es) X.env).map (·.2) = assign e X.env :: (assignEach es X.env).map (·.2) := by rfl) : QGn X vs (e :: es) (gsC t u) (n + 1) :=
  ⟨qgs_cons h1 h2.q hs, fun ds δ M Q h => by
    cases ds with
    | nil => exact h.elim
    | cons d ds =>
      obtain ⟨δ', M', q⟩ := lo _ _ _ _ h
      simp [h2.len _ _ _ _ q]⟩
theorem qg_tupn {vs : List Nat} {k : Nat} {t : DGs} {n : Nat} (hc : X.calm = true) (h : QGn X vs es t n) (hn : (assignEach es X.env).length = n := by rfl) (hst : (assignEach es X.env).findIdx? (·.1) = none := by rfl) : QG X vs (.Tuple es k pos) (gT t) := qg_tup hc h.q h.len hn hst
def wAsg (we : DE) (g : DG) : DS := fun D δ M => we δ M (fun d M1 => g d δ M1 D.nx) (fun x M => D.xx x δ M)
theorem asg_of {K : PySem.W.Frag} {vs : List Nat} {g : DG} {D : Ends} {σ : L2.St} {H : Hp} (h : cS K W (wAsg wa g) D σ H) : tAsg (cE K W wa) (cG K vs g) D σ H := by
  obtain ⟨H0, δ, M, D', p, w, le⟩ := h
  exact ⟨H0, δ, M, _, D'.xx, p, w, fun v H' d M' k rd rm q => ⟨δ, M', d, _, p.rs.tk k, rm, rd, q, fun σ2 H2 δ2 M2 k2 rs2 rm2 _ q2 => le.nx σ2 H2 δ2 M2 (k.trans k2) rs2 rm2 q2⟩⟩
theorem qs_asg (vs : List Nat) {tg : Expr} {g : DG} (he : QE X W e wa) (hg : QG X vs tg g) (hs : swapsWithSole [tg] e pos.line X.env = pure false := by rfl) (hw : swappedStores [tg] e X.env = pure none := by rfl)
    (h1 : (assignEach [tg] X.env).map (·.2) = [assign tg X.env] := by rfl) : QS X W (.Assign [tg] e pos) (wAsg wa g) := ps_weak (ps_asg he hg hs hw h1) fun _ _ _ h => asg_of h
theorem qs_set (i : Nat) {x : Str} {pos' : Pos} (hN : X.N.Nodup) (he : QE X W e wa) (hi : X.N[i]? = some x := by rfl) (hx : Loc X.env.scope x := by first | exact Or.inl rfl | exact Or.inr rfl) (hs : swapsWith e (some (.Name x pos')) pos.line X.env = pure false := by rfl) (hf : X.fn x = true ∨ X.env.scope.names.lookup x = some .local := by first | exact .inl rfl | exact .inr rfl | assumption) :
    QS X W (.Assign [.Name x pos'] e pos) (wAsg wa (gN i)) :=
  ps_weak (ps_set hN hi hx he hs hf) fun D σ H ⟨H0, δ, M, D', p, w, le⟩ => ⟨H0, δ, M, _, D'.xx, p, w, fun v H' d M' k rd rm q => le.nx _ H' _ M' k ((p.rs.tk k).set i rd) rm q⟩
/-- name op= e -/
def wAug (i : Nat) (rd : D2) (we : DE) : DS := fun D δ M => onS δ[i]? fun d => we δ M (fun e M1 => rd d e M1 fun z M2 => D.nx (δ.set i (some z)) M2) (fun x M => D.xx x δ M)
theorem qs_aug (i : Nat) {x : Str} {op : Operator} {ti : TIp} {rd : D2} {pos' : Pos} (hN : X.N.Nodup) (he : QE X W e wa) (ho : PIp X op ti) (o2 : O2 X.K ti rd) (hi : X.N[i]? = some x := by rfl) (hx : Loc X.env.scope x := by first | exact Or.inl rfl | exact Or.inr rfl) (hf : X.fn x = true ∨ X.env.scope.names.lookup x = some .local := by first | exact .inl rfl | exact .inr rfl | assumption) :
    QS X W (.AugAssign (.Name x pos') op e pos) (wAug i rd wa) :=
  ps_weak (ps_aug hN hi hx he ho hf) fun D σ H ⟨H0, δ, M, D', p, w, le⟩ => by
    obtain ⟨d, ed, w⟩ := onS_ex w
    obtain ⟨v, ev, rv⟩ := p.rs.2 i d ed
    exact ⟨v, ev, H0, δ, M, _, D'.xx, p, w, fun u H' e' M' k rd' rm q => o2 v u d e' H' M' _ _ (RD.tk k rv) rd' rm q fun z H2 dz M2 k2 rz rm2 q2 => le.nx _ H2 _ M2 (k.trans k2) ((p.rs.tk (k.trans k2)).set i rz) rm2 q2⟩
abbrev iaddD : D2 := int0D fun i j => .int (i + j)
theorem o2_iadd {K : PySem.W.Frag} : O2 K (ipI fun i j => i + j) iaddD := o2_int0 (g := fun i j => V.int (i + j)) fun _ _ _ => RD.intI
/-- o.f = e -/
def wSetF (C : Addr) (f : Str) (wo we : DE) : DS := fun D δ M => we δ M (fun y M1 => wo δ M1 (fun d M2 => ∃ a fs, d = .ob a ∧ M2 a = some (.ins C fs) ∧ fs.length < 1000 ∧ D.nx δ (upm M2 a (.ins C (putD f y fs)))) (fun x M => D.xx x δ M)) (fun x M => D.xx x δ M)
theorem notPerm_ins {C dx : Addr} {fs : List (Str × V)} : ¬ Perm (.ins C dx fs) := fun z => z
theorem qs_fld {C : Addr} {f : Str} {pos' : Pos} (ho : QE X W o wo) (he : QE X W e wa) (c : Cls X.K C) (n : NoAttr X.K C f) (hs : swapsWith e (some (.Attribute o f pos')) pos.line X.env = pure false := by rfl) : QS X W (.Assign [.Attribute o f pos'] e pos) (wSetF C f wo wa) :=
  ps_weak (ps_fld ho he hs) fun D σ H ⟨H0, δ, M, D', p, w, le⟩ => ⟨H0, δ, M, _, D'.xx, p, w, fun v H1 d M1 k1 r1 m1 w1 => ⟨H0, δ, M1, _, D'.xx, p.step k1 m1, w1, fun u H2 d2 M2 k2 r2 m2 w2 => by
    obtain ⟨a, fs, rfl, ea, hl, q⟩ := w2
    obtain ⟨dx, gs, e1, t1⟩ := m2 _ _ ea
    have kp := TK.put (o := .ins C dx (putF f v gs)) e1 notPerm_ins
    exact ⟨a, C, dx, gs, r2, e1, c, n, by rw [← t1.length]; exact hl, le.nx _ _ _ _ (k1.trans (k2.trans kp)) (p.rs.tk (k1.trans (k2.trans kp))) (m2.put e1 notPerm_ins (RO.insI upd_same ((t1.put (RD.tk k2 r1)).tk kp))) q⟩⟩⟩
/-- o.f op= e -/
def wAugF (C : Addr) (f : Str) (rd : D2) (wo we : DE) : DS := fun D δ M => wo δ M (fun d M1 => ∃ a fs y, d = .ob a ∧ M1 a = some (.ins C fs) ∧ fs.lookup f = some y ∧ we δ M1 (fun e M2 => rd y e M2 fun z M3 => ∃ fs', M3 a = some (.ins C fs') ∧ fs'.length < 1000 ∧ D.nx δ (upm M3 a (.ins C (putD f z fs')))) (fun x M => D.xx x δ M)) (fun x M => D.xx x δ M)
theorem qs_fldaug {C : Addr} {f : Str} {tpos : Pos} {op : Operator} {r : V → V → Hp → VK → Prop} {rd : D2} (ho : QE X W o wo) (he : QE X W e wa) (hop : InOp X op r) (o2 : O2 X.K r rd) (c : Cls X.K C) (n : NoAttr X.K C f) : QS X W (.AugAssign (.Attribute o f tpos) op e pos) (wAugF C f rd wo wa) :=
  ps_weak (ps_fldaug ho he hop) fun D σ H ⟨H0, δ, M, D', p, w, le⟩ => ⟨H0, δ, M, _, D'.xx, p, w, fun v H1 d M1 k1 r1 m1 w1 => by
    obtain ⟨a, fs, y, rfl, ea, l, w1⟩ := w1
    obtain ⟨dx, gs, e1, t1⟩ := m1 _ _ ea
    obtain ⟨u, l2, ru⟩ := t1.lookup l
    refine ⟨a, C, dx, gs, u, r1, e1, c, n, l2, H0, δ, M1, _, D'.xx, p.step k1 m1, w1, fun v2 H2 d2 M2 k2 r2 m2 w2 => ?_⟩
    refine o2 u v2 y d2 H2 M2 _ _ (RD.tk k2 ru) r2 m2 w2 fun z H3 dz M3 k3 rz m3 q => ?_
    obtain ⟨fs', ea', hl, q⟩ := q
    obtain ⟨dx', gs', e3, t3⟩ := m3 _ _ ea'
    have kp := TK.put (o := .ins C dx' (putF f z gs')) e3 notPerm_ins
    exact ⟨dx', gs', e3, by rw [← t3.length]; exact hl, le.nx _ _ _ _ (k1.trans (k2.trans (k3.trans kp))) (p.rs.tk (k1.trans (k2.trans (k3.trans kp)))) (m3.put e3 notPerm_ins (RO.insI upd_same ((t3.put rz).tk kp))) q⟩⟩
theorem o2_raddI {K : PySem.W.Frag} : O2 K rAdd iaddD := o2_int0 (g := fun i j => V.int (i + j)) fun _ _ _ => RD.intI
/-- o[i] = e, o a list -/
def wSetL (wo wi we : DE) : DS := fun D δ M => we δ M (fun y M1 => wo δ M1 (fun d M2 => wi δ M2 (fun i M3 => ∃ a xs k j, d = .ob a ∧ i = .int k ∧ M3 a = some (.lst xs) ∧ ixN xs.length k = some j ∧ D.nx δ (upm M3 a (.lst (xs.set j y)))) (fun x M => D.xx x δ M)) (fun x M => D.xx x δ M)) (fun x M => D.xx x δ M)
theorem qs_setL {i : Expr} {wi : DE} {pos' : Pos} (ho : QE X W o wo) (hi : QE X W i wi) (he : QE X W e wa)
    (ha : ∀ v, assign (.Subscript o i pos') X.env v = (do
      let ov ← holding [v] (eval o X.env)
      let iv ← holding [v, ov] (eval i X.env)
      standAt pos'
      holding [v, ov, iv] (setItem ov iv v)
      release [v, ov, iv] []) := by intro _; rfl)
    (hs : swapsWithSole [.Subscript o i pos'] e pos.line X.env = pure false := by rfl) (hw : swappedStores [.Subscript o i pos'] e X.env = pure none := by rfl)
    (h1 : (assignEach [.Subscript o i pos'] X.env).map (·.2) = [assign (.Subscript o i pos') X.env] := by rfl) : QS X W (.Assign [.Subscript o i pos'] e pos) (wSetL wo wi wa) :=
  ps_weak (ps_asg he (pg_sub ho hi set_list ha) hs hw h1) fun D σ H ⟨H0, δ, M, D', p, w, le⟩ => ⟨H0, δ, M, _, D'.xx, p, w, fun v H1 d M1 k1 r1 m1 w1 => ⟨H0, δ, M1, _, D'.xx, p.step k1 m1, w1, fun vo H2 dO M2 k2 r2 m2 w2 => ⟨H0, δ, M2, _, D'.xx, (p.step k1 m1).step k2 m2, w2, fun vi H3 di M3 k3 r3 m3 w3 => by
    obtain ⟨a, xs, k, j, rfl, rfl, ea, hj, q⟩ := w3
    cases r2
    cases r3
    obtain ⟨us, e1, t1⟩ := m3 _ _ ea
    have kp := TK.put (o := .lst (us.set j v)) e1 notPerm_lst
    exact ⟨a, us, k, j, rfl, rfl, e1, by rw [← t1.length]; exact hj, le.nx _ _ _ _ (k1.trans (k2.trans (k3.trans kp))) (p.rs.tk (k1.trans (k2.trans (k3.trans kp)))) (m3.put e1 notPerm_lst (RO.lstI upd_same (RDs.tk kp (RDs.set (RD.tk (k2.trans k3) r1) j t1)))) q⟩⟩⟩⟩
/-! ### raise -/
def wRaise (C : Addr) : DS := fun D δ M => D.xx ⟨C, []⟩ δ M
theorem qs_raise {bmB : List Value} {B newId initId : String} {C : Addr} {x m : Str} {j : Nat} {p p2 cp : Pos} (hc : X.calm = true) (tk : Takes X W) (F : ExcBaseFacts B newId initId bmB) (q : PySem.W.excIn X.K C bmB newId = true) (gC : X.mg x = some (.ref C)) (kC : PySem.W.keepIn X.K (.ref C) = true) (r : Raises X (.ref C)) (hg : Gl X x)
    (hdb : (x == ("__debug__" : Str)) = false := by decide +kernel) : QS X W (.Raise (some (.Call (.Name x p) [.Constant (.str m) j p2] [] cp)) none pos) (wRaise C) :=
  ps_weak (ps_raise hc tk (pmk_own F q gC kC r hg hdb)) fun D σ H ⟨H0, δ, M, D', p, w, le⟩ => p.lf ⟨C, []⟩ (.ref C) none σ H δ M p.tk ⟨rfl, .inl ⟨rfl, rfl⟩⟩ p.rs p.rm w
/-! ### while -/
def wWhile (t : DT) (wb : DS) : DS := fun D δ M => ∃ I : Nat → Env → Mp → Prop, (∃ m, I m δ M) ∧ ∀ m δ M, I m δ M → t δ M (fun b M1 => if b = true then
  wb { D with nx := fun δ' M' => ∃ m', m' < m ∧ I m' δ' M', ct := fun δ' M' => ∃ m', m' < m ∧ I m' δ' M', bk := D.nx } δ M1 else D.nx δ M1) (fun x M => D.xx x δ M)
theorem qs_while (hp : PassesOwn (model X.prog X.w) X.A X.env X.xe) (hc : QT X W c tc) (hb : QSs X W sts w1) : QS X W (.While c sts [] pos) (wWhile tc w1) :=
  ps_weak (ps_while hp hc hb) fun D σ H ⟨H0, δ, M, D', p, w, le⟩ => by
    obtain ⟨I, ⟨m, i0⟩, turn⟩ := w
    refine ⟨fun m σ' H' => ∃ δ' M', TK H H' ∧ RS X.K H' δ' σ' ∧ RM X.K H' M' ∧ I m δ' M', ⟨m, δ, M, TK.refl H, p.rs, p.rm, i0⟩, ?_⟩
    rintro m σ1 H1 ⟨δ1, M1, k1, rs1, rm1, i1⟩
    refine ⟨H0, δ1, M1, _, D'.xx, ⟨p.tk.trans k1, p.lf, rs1, rm1⟩, turn m δ1 M1 i1, fun b H2 M2 k2 rm2 q => ?_⟩
    cases b with
    | true =>
      rw [if_pos rfl] at q ⊢
      refine ⟨fun σ' H' => ∃ m', m' < m ∧ ∃ δ' M', TK H H' ∧ RS X.K H' δ' σ' ∧ RM X.K H' M' ∧ I m' δ' M', fun σ' H' z => z, ?_⟩
      refine ⟨H0, δ1, M2, { D' with nx := fun δ' M' => ∃ m', m' < m ∧ I m' δ' M', ct := fun δ' M' => ∃ m', m' < m ∧ I m' δ' M', bk := D'.nx }, ⟨p.tk.trans (k1.trans k2), p.lf, rs1.tk k2, rm2⟩, q, ⟨?_, ?_, ?_, ?_⟩⟩
      · rintro σ' H' δ' M' k3 rs3 rm3 ⟨m', hm, i'⟩
        exact ⟨m', hm, δ', M', k1.trans (k2.trans k3), rs3, rm3, i'⟩
      · exact (le.tk (k1.trans k2)).rt
      · exact (le.tk (k1.trans k2)).nx
      · rintro σ' H' δ' M' k3 rs3 rm3 ⟨m', hm, i'⟩
        exact ⟨m', hm, δ', M', k1.trans (k2.trans k3), rs3, rm3, i'⟩
    | false =>
      rw [if_neg Bool.false_ne_true] at q ⊢
      exact (le.tk k1).nx _ _ _ _ k2 (rs1.tk k2) rm2 q
/-! ### for -/
structure DIt where
  xs : List D
  G : Mp → Prop
structure WalkD (K : PySem.W.Frag) (H : Hp) (J : It) (it : DIt) : Prop where
  goes : ∀ i H' M', TK H H' → RM K H' M' → it.G M' → i < it.xs.length → J.go i H'
  stops : ∀ H' M', TK H H' → RM K H' M' → it.G M' → J.stop it.xs.length H'
  yields : ∀ i x H' H'' M', TK H H' → RM K H' M' → it.G M' → i < it.xs.length → J.yld i H' x H'' → ∃ d, it.xs[i]? = some d ∧ TK H' H'' ∧ RD K H'' d x ∧ RM K H'' M'
abbrev DI := Env → Mp → (DIt → Mp → Prop) → XKD → Prop
def cI (K : PySem.W.Frag) (W : WX) (w : DI) : TI := fun σ H R => ∃ H0 δ M R' XX, Pre K W H0 σ H δ M XX ∧ w δ M R' (fun x M => XX x δ M) ∧
  ∀ J H' it M', TK H H' → RM K H' M' → WalkD K H' J it → R' it M' → R J H'
abbrev QI (X : Cx) (W : WX) (tg e : Expr) (w : DI) : Prop := PI X tg e (cI X.K W w)
theorem pi_weak {tg e : Expr} {t t' : TI} (h : PI X tg e t) (k : ∀ σ H Q, t' σ H Q → t σ H Q) : PI X tg e t' := ⟨fun pins s σ H R I q => h.run pins s σ H R I (k _ _ _ q)⟩
/-- what a for asks of the rest, once its items are known -/
def ForOk (it : DIt) (g : DG) (wb : DS) (D : DEnds) (δ : Env) (M : Mp) : Prop := ∃ I : Nat → Env → Mp → Prop, I 0 δ M ∧ (∀ i δ M, i ≤ it.xs.length → I i δ M → it.G M) ∧
  (∀ i d δ M, it.xs[i]? = some d → I i δ M → g d δ M fun δ2 M2 => wb { D with nx := I (i + 1), ct := I (i + 1), bk := D.nx } δ2 M2) ∧ ∀ δ M, I it.xs.length δ M → D.nx δ M
def wFor (wi : DI) (g : DG) (wb : DS) : DS := fun D δ M => wi δ M (fun it M1 => ForOk it g wb D δ M1) (fun x M => D.xx x δ M)
theorem for_list {xs : List D} {G : Mp → Prop} {g : DG} {wb : DS} {D : DEnds} {δ : Env} {M : Mp} (I : Nat → Env → Mp → Prop) (h0 : I 0 δ M) (hG : ∀ i δ M, i ≤ xs.length → I i δ M → G M)
    (hs : ∀ i d δ M, xs[i]? = some d → I i δ M → g d δ M fun δ2 M2 => wb { D with nx := I (i + 1), ct := I (i + 1), bk := D.nx } δ2 M2) (hd : ∀ δ M, I xs.length δ M → D.nx δ M) : ForOk ⟨xs, G⟩ g wb D δ M := ⟨I, h0, hG, hs, hd⟩
theorem for_rng {lo : Int} {n : Nat} {g : DG} {wb : DS} {D : DEnds} {δ : Env} {M : Mp} (I : Nat → Env → Mp → Prop) (h0 : I 0 δ M)
    (hs : ∀ (i : Nat) δ M, i < n → I i δ M → g (.int (lo + i)) δ M fun δ2 M2 => wb { D with nx := I (i + 1), ct := I (i + 1), bk := D.nx } δ2 M2) (hd : ∀ δ M, I n δ M → D.nx δ M) : ForOk ⟨(List.range n).map fun (i : Nat) => QL.D.int (lo + i), fun _ => True⟩ g wb D δ M := by
  refine ⟨I, h0, fun _ _ _ _ _ => trivial, fun i d δ M hd h => ?_, fun δ M h => hd δ M (by simpa using h)⟩
  have hi : i < n := by
    have := (List.getElem?_eq_some_iff.mp hd).1
    simpa using this
  have e : ((List.range n).map fun (i : Nat) => QL.D.int (lo + i))[i]? = some (.int (lo + i)) := by simp [List.getElem?_range hi]
  have hd' : ((List.range n).map fun (i : Nat) => QL.D.int (lo + i))[i]? = some d := hd
  rw [e] at hd'
  cases hd'
  exact hs i δ M hi h
theorem qs_for (vs : List Nat) {tg iter : Expr} {wi : DI} {g : DG} (hp : PassesOwn (model X.prog X.w) X.A X.env X.xe) (hc : X.calm = true) (hi : QI X W tg iter wi) (hg : QG X vs tg g) (hb : QSs X W sts w1)
    (hs : ∀ x, foldedSetIterable iter X.env x = pure x := by intro _; rfl) : QS X W (.For tg iter sts [] pos) (wFor wi g w1) :=
  ps_weak (ps_for hp hc hi hg hb hs) fun D σ H ⟨H0, δ, M, D', p, w, le⟩ => by
    refine ⟨H0, δ, M, _, D'.xx, p, w, fun J H1 it M1 k1 m1 wk w1 => ?_⟩
    obtain ⟨I, i0, hG, turn, fin⟩ := w1
    refine ⟨fun i m σ' H' => m = it.xs.length - i ∧ i ≤ it.xs.length ∧ ∃ δ' M', TK H1 H' ∧ RS X.K H' δ' σ' ∧ RM X.K H' M' ∧ I i δ' M', ⟨_, rfl, Nat.zero_le _, δ, M1, TK.refl H1, p.rs.tk k1, m1, i0⟩, ?_⟩
    rintro i m σ2 H2 ⟨rfl, hi, δ2, M2, k2, rs2, m2, i2⟩
    have g2 := hG i δ2 M2 hi i2
    by_cases hlt : i < it.xs.length
    · refine .inr ⟨wk.goes i H2 M2 k2 m2 g2 hlt, fun σ' H' => ∃ m', m' < it.xs.length - i ∧ (m' = it.xs.length - (i + 1) ∧ i + 1 ≤ it.xs.length ∧ ∃ δ' M', TK H1 H' ∧ RS X.K H' δ' σ' ∧ RM X.K H' M' ∧ I (i + 1) δ' M'), fun σ' H' z => z, fun x H3 y => ?_⟩
      obtain ⟨d, hd, k3, rd, m3⟩ := wk.yields i x H2 H3 M2 k2 m2 g2 hlt y
      refine ⟨δ2, M2, d, _, rs2.tk k3, m3, rd, turn i d δ2 M2 hd i2, fun σ4 H4 δ4 M4 k4 rs4 m4 _ q => ?_⟩
      have kk := k1.trans (k2.trans (k3.trans k4))
      refine ⟨H0, δ4, M4, { D' with nx := I (i + 1), ct := I (i + 1), bk := D'.nx }, ⟨p.tk.trans kk, p.lf, rs4, m4⟩, q, ⟨?_, (le.tk kk).rt, (le.tk kk).nx, ?_⟩⟩
      · intro σ5 H5 δ5 M5 k5 rs5 m5 q5
        exact ⟨it.xs.length - (i + 1), by omega, rfl, hlt, δ5, M5, k2.trans (k3.trans (k4.trans k5)), rs5, m5, q5⟩
      · intro σ5 H5 δ5 M5 k5 rs5 m5 q5
        exact ⟨it.xs.length - (i + 1), by omega, rfl, hlt, δ5, M5, k2.trans (k3.trans (k4.trans k5)), rs5, m5, q5⟩
    · have e : i = it.xs.length := by omega
      subst e
      exact .inl ⟨wk.stops H2 M2 k2 m2 g2, (le.tk k1).nx _ _ _ _ k2 rs2 m2 (fin δ2 M2 i2)⟩
/-- a tuple, a list that never changes, a list -/
def wIt (we : DE) : DI := fun δ M R E => we δ M (fun d M1 => match d with
  | .fl xs => R ⟨xs, fun _ => True⟩ M1
  | .ob a => onL M1 a fun xs => R ⟨xs, fun M => M a = some (.lst xs)⟩ M1
  | _ => False) E
theorem qi_list {tg : Expr} (he : QE X W e wa) : QI X W tg e (wIt wa) :=
  pi_weak (pi_list he) fun σ H R ⟨H0, δ, M, R', XX, p, w, k⟩ => ⟨H0, δ, M, _, XX, p, w, fun v H1 d M1 k1 r1 m1 w1 => by
    cases d with
    | fl xs =>
      obtain ⟨a, us, rfl, s, t⟩ := r1
      refine ⟨a, rfl, ⟨us, s.sq⟩, k _ H1 _ M1 k1 m1 ⟨fun i H' M' k2 _ _ hi => ?_, fun H' M' k2 _ _ => ?_, fun i x H' H'' M' k2 m2 _ hi y => ?_⟩ w1⟩
      · exact ⟨us, us[i]'(by rw [← t.length]; exact hi), (s.tk k2).sq, by simp⟩
      · exact ⟨us, (s.tk k2).sq, by rw [← t.length]; exact Nat.le_refl _⟩
      · obtain ⟨rfl, y⟩ := y
        have e := y us (s.tk k2).sq
        obtain ⟨d, hd, rd⟩ := t.getV e
        exact ⟨d, hd, TK.refl _, RD.tk k2 rd, m2⟩
    | ob a =>
      cases r1
      obtain ⟨xs, e1, w1⟩ := w1
      obtain ⟨us, h, t⟩ := m1 _ _ e1
      refine ⟨a, rfl, ⟨us, SqL.of h⟩, k _ H1 _ M1 k1 m1 ⟨fun i H' M' k2 m2 g hi => ?_, fun H' M' k2 m2 g => ?_, fun i x H' H'' M' k2 m2 g hi y => ?_⟩ w1⟩
      · obtain ⟨us', h', t'⟩ := m2 _ _ g
        exact ⟨us', us'[i]'(by rw [← t'.length]; exact hi), SqL.of h', by simp⟩
      · obtain ⟨us', h', t'⟩ := m2 _ _ g
        exact ⟨us', SqL.of h', by rw [← t'.length]; exact Nat.le_refl _⟩
      · obtain ⟨us', h', t'⟩ := m2 _ _ g
        obtain ⟨rfl, y⟩ := y
        have e := y us' (SqL.of h')
        obtain ⟨d, hd, rd⟩ := t'.getV e
        exact ⟨d, hd, TK.refl _, rd, m2⟩
    | _ => exact w1.elim⟩
def wItT (we : DE) : DI := fun δ M R E => we δ M (fun d M1 => match d with
  | .tup xs => R ⟨xs, fun _ => True⟩ M1
  | _ => False) E
theorem qi_tup {tg : Expr} (he : QE X W e wa) : QI X W tg e (wItT wa) :=
  pi_weak (pi_tup he) fun σ H R ⟨H0, δ, M, R', XX, p, w, k⟩ => ⟨H0, δ, M, _, XX, p, w, fun v H1 d M1 k1 r1 m1 w1 => by
    cases d with
    | tup xs =>
      obtain ⟨a, us, rfl, s, t⟩ := r1
      refine ⟨a, rfl, ⟨us, s⟩, k _ H1 _ M1 k1 m1 ⟨fun i H' M' k2 _ _ hi => ?_, fun H' M' k2 _ _ => ?_, fun i x H' H'' M' k2 m2 _ hi y => ?_⟩ w1⟩
      · exact ⟨us, us[i]'(by rw [← t.length]; exact hi), SqT.tk s k2, by simp⟩
      · exact ⟨us, SqT.tk s k2, by rw [← t.length]; exact Nat.le_refl _⟩
      · obtain ⟨rfl, y⟩ := y
        have e := y us (SqT.tk s k2)
        obtain ⟨d, hd, rd⟩ := t.getV e
        exact ⟨d, hd, TK.refl _, RD.tk k2 rd, m2⟩
    | _ => exact w1.elim⟩
abbrev rngD (lo : Int) (n : Nat) : List D := (List.range n).map fun (i : Nat) => .int (lo + i)
theorem walk_rng {K : PySem.W.Frag} {H : Hp} {lo : Int} {n : Nat} : WalkD K H (Itr lo n) ⟨rngD lo n, fun _ => True⟩ :=
  ⟨fun i H' M' _ _ _ hi => by show i < n; simpa [rngD] using hi, fun H' M' _ _ _ => by show n ≤ (rngD lo n).length; simp [rngD], fun i x H' H'' M' _ m _ hi y => by
    obtain ⟨rfl, rfl⟩ := y
    have hi' : i < n := by simpa [rngD] using hi
    exact ⟨.int (lo + i), by simp [rngD, List.getElem?_range hi'], TK.refl _, RD.intI, m⟩⟩
def wRng1 (ws : DA) : DI := fun δ M R E => ws δ M (fun ds M1 => match ds with
  | [.int j] => (-(2 ^ 62) ≤ j ∧ j < 2 ^ 62) ∧ R ⟨rngD 0 j.toNat, fun _ => True⟩ M1
  | _ => False) E
theorem qi_rng1 {tg : Expr} {p : Pos} (hg : Gl X "range") (hm : X.mg "range" = none) (he : QE X W e wa) (hs : starEach [e] X.env = [(false, eval e X.env)] := by rfl) (hs2 : starEach [e] X.env = (false, eval e X.env) :: starEach [] X.env := by rfl) : QI X W tg (.Call (.Name "range" p) [e] [] pos) (wRng1 (wCons wa wNil)) :=
  pi_weak (pi_range1 hg hm (qa_cons he qa_nil hs2) hs) fun σ H R ⟨H0, δ, M, R', XX, p, w, k⟩ => ⟨H0, δ, M, _, XX, p, w, fun vs H1 ds M1 k1 r1 m1 w1 => by
    revert w1
    split
    · intro w1
      obtain ⟨v, rfl, rfl⟩ := rds1 r1
      exact ⟨_, rfl, w1.1.1, w1.1.2, k _ H1 _ M1 k1 m1 walk_rng w1.2⟩
    · intro w1; exact w1.elim⟩
def wRng2 (ws : DA) : DI := fun δ M R E => ws δ M (fun ds M1 => match ds with
  | [.int i, .int j] => (-(2 ^ 62) ≤ i ∧ i < 2 ^ 62 ∧ -(2 ^ 62) ≤ j ∧ j < 2 ^ 62) ∧ R ⟨rngD i (j - i).toNat, fun _ => True⟩ M1
  | _ => False) E
/-! ### try .. except X: -/
def wTry (h : Addr → Option Bool) (wb ws : DS) : DS := fun D δ M => wb { D with xx := fun x δ' M' => ∃ b, h x.cls = some b ∧ (b = true → ws { D with xx := fun _ _ _ => False } δ' M') ∧ (b = false → D.xx x δ' M') } δ M
end
end QL
namespace QL
open PySem PySem.Spec PyProof.Rows L2
theorem hu65 {k : Nat} {A : Around} (hr : Room k A) : A.units + 65 < cLine := by have := hr.un; omega
theorem hu64 {k : Nat} {A : Around} (hr : Room k A) : A.units + 64 < cLine := by have := hr.un; omega
section
variable {X : Cx} {W : WX} {a b c e o : Expr} {es : List Expr} {wa wb wo : DE} {ws : DA} {tc : DT} {pos : Pos} {st : Stmt} {sts : List Stmt} {w1 w2 : DS}
/-! ### constants of the module -/
theorem qe_gstr {x : Str} {s : String} {t : Tok} (hg : Gl X x) (hm : X.mg x = some (.str (Str.ofString s) t)) (hd : (x == ("__debug__" : Str)) = false := by decide +kernel) : QE X W (.Name x pos) (wC (.str (tx s))) :=
  qe_glob (v := .str (Str.ofString s)) (fun _ => ⟨by rw [str_of], okc_tx s⟩) hg hm ⟨t, rfl⟩ hd
theorem qe_gint {x : Str} {i : Int} {t : Tok} (hg : Gl X x) (hm : X.mg x = some (.int i t)) (hd : (x == ("__debug__" : Str)) = false := by decide +kernel) : QE X W (.Name x pos) (wC (.int i)) :=
  qe_glob (v := .int i) (fun _ => RD.intI) hg hm ⟨t, rfl⟩ hd
theorem qe_bty {x : Str} {n : String} (hg : Gl X x) (hm : X.mg x = none) (hv : bootBuiltins x = some (.type n) := by decide +kernel) (hn : x ≠ "__name__" := by decide +kernel) (hd : (x == ("__debug__" : Str)) = false := by decide +kernel) : QE X W (.Name x pos) (wC (.ty n)) :=
  qe_c (pe_bltn (v := .ty n) hg hm hv rfl hn hd) fun _ => rfl
/-! ### int * int, text * int -/
theorem foldl_app (xs : List Nat) : ∀ (m : Nat) (acc : List Nat), List.foldl (· ++ ·) acc.toArray (List.replicate m xs.toArray) = (acc ++ (List.replicate m xs).flatten).toArray
  | 0, acc => by simp
  | m + 1, acc => by
    rw [List.replicate_succ, List.foldl_cons, List.append_toArray, foldl_app xs m (acc ++ xs), List.replicate_succ, List.flatten_cons, List.append_assoc]
def rMulS : R2 := fun x y H Q => ∃ z i, x = .str z ∧ y = .int i ∧ -1000000 ≤ i ∧ i ≤ 1000000 ∧ z.length * i.toNat ≤ sizeLine ∧ z.length ≤ sizeLine ∧ Q (.str ⟨(List.replicate i.toNat z.cps.toList).flatten.toArray⟩) H
theorem op_mulS : OpR X (binaryOp .Mult) rMulS := by
  intro pins s σ H x y v u Q I rx ry h
  obtain ⟨z, i, rfl, rfl, h1, h2, h3, h4, q⟩ := h
  obtain ⟨t, rfl⟩ := rx
  obtain ⟨t', rfl⟩ := ry
  have hs : sizeLine = 16777216 := sizeLine_eq
  have e0 : (List.replicate i.toNat z.cps).foldl (· ++ ·) #[] = (List.replicate i.toNat z.cps.toList).flatten.toArray := by
    have := foldl_app z.cps.toList i.toNat []
    simpa using this
  have lf : ((List.replicate i.toNat z.cps.toList).flatten).length = z.length * i.toNat := by
    simp [Str.length, Nat.mul_comm]
  refine PySem.P.mul_str ?_ ?_ ?_ ?_
  · rw [decide_eq_false (by omega), decide_eq_false (by omega)]; rfl
  · intro n1 n2 hh
    have hi : 1 ≤ i := by omega
    have hh' := Int.lt_of_lt_of_le hh (show (z.length : Int) ≤ 16777216 by omega)
    have : (2 ^ 63 - 1 : Int) / 1000000 ≤ (2 ^ 63 - 1) / i := by
      apply Int.le_ediv_of_mul_le (by omega)
      have h5 : (2 ^ 63 - 1 : Int) / 1000000 * i ≤ (2 ^ 63 - 1 : Int) / 1000000 * 1000000 := Int.mul_le_mul_of_nonneg_left (by omega) (by decide)
      exact Int.le_trans h5 (by decide)
    have h6 : (16777216 : Int) < (2 ^ 63 - 1) / 1000000 := by decide
    omega
  · intro _ _
    have e : Builtin.Str.tooLong (z.length * i.toNat) = false := by
      unfold Builtin.Str.tooLong
      first
        | exact decide_eq_false (by omega)
        | (simp; omega)
    exact e
  · by_cases c1 : i < 1
    · rw [if_pos c1]
      have e : (List.replicate i.toNat z.cps.toList).flatten = [] := by
        have : i.toNat = 0 := by omega
        rw [this]; rfl
      rw [e] at q
      exact ⟨by decide, .str _, H, I.tok _, ⟨_, rfl⟩, q⟩
    · rw [if_neg c1]
      by_cases c2 : (i == 1 || z.length == 0) = true
      · rw [if_pos c2]
        have e : (⟨(List.replicate i.toNat z.cps.toList).flatten.toArray⟩ : Str) = z := by
          rw [Bool.or_eq_true, beq_iff_eq, beq_iff_eq] at c2
          rcases c2 with c2 | c2
          · subst c2
            show (⟨(List.replicate 1 z.cps.toList).flatten.toArray⟩ : Str) = z
            simp
          · have hz : z.cps.toList = [] := by
              have : z.cps.toList.length = 0 := by simpa [Str.length] using c2
              exact List.eq_nil_of_length_eq_zero this
            have e2 : (List.replicate i.toNat z.cps.toList).flatten = [] := by rw [hz]; simp
            rw [e2]
            have e3 : z.cps = #[] := by simpa using congrArg List.toArray hz
            obtain ⟨zc⟩ := z
            simp only at e3
            rw [e3]
        rw [e] at q
        exact ⟨.str _, H, I, ⟨t, rfl⟩, q⟩
      · rw [if_neg c2, e0]
        refine ⟨?_, .str _, H, I.tok _, ⟨_, rfl⟩, q⟩
        show (List.toArray _).size ≤ _
        rw [List.size_toArray, lf]; exact h3
def mulD : D2 := fun d e M Q => match d, e with
  | .int i, .int j => CMul i j ∧ Q (.int (i * j)) M
  | .str x, .int i => (-1000000 ≤ i ∧ i ≤ 1000000 ∧ x.length * i.toNat ≤ sizeLine ∧ x.length ≤ sizeLine) ∧ Q (.str (List.replicate i.toNat x).flatten) M
  | _, _ => False
def rMulAll : R2 := fun x y H Q => rI CMul (fun i j => .int (i * j)) x y H Q ∨ rMulS x y H Q
theorem op_mulAll : OpR X (binaryOp .Mult) rMulAll := op_mul.or op_mulS
theorem okc_rep {x : Tx} (h : okc x) (n : Nat) : okc (List.replicate n x).flatten := fun c hc => by
  obtain ⟨l, hl, h2⟩ := List.mem_flatten.mp hc
  rw [(List.mem_replicate.mp hl).2] at h2
  exact h c h2
theorem o2_mul {K : PySem.W.Frag} : O2 K rMulAll mulD := by
  intro x y d e H M Q Q' r1 r2 m w k
  unfold mulD at w
  split at w
  · cases r1; cases r2
    exact .inl ⟨_, _, rfl, rfl, w.1, k _ H _ M (TK.refl H) RD.intI m w.2⟩
  · obtain ⟨rfl, ok⟩ := r1
    cases r2
    obtain ⟨⟨h1, h2, h3, h4⟩, w⟩ := w
    exact .inr ⟨_, _, rfl, rfl, h1, h2, by rw [str_len]; exact h3, by rw [str_len]; exact h4, k _ H _ M (TK.refl H) (RD.strI (okc_rep ok _)) m w⟩
  · exact w.elim
theorem qe_mul (ha : QE X W a wa) (hb : QE X W b wb) : QE X W (.BinOp a .Mult b pos) (wOp mulD wa wb) := qe_op op_mulAll o2_mul ha hb
/-! ### isinstance of built-in types -/
def isiT (t T : String) : Bool := t == T || (t == "bool" && T == "int")
theorem isi_all : ∀ t ∈ ["NoneType", "bool", "int", "str", "tuple", "list", "dict"], ∀ T ∈ ["bool", "int", "str", "tuple", "list", "dict"], kitB t T = some (isiT t T) := by decide +kernel
def tyN (d : D) (M : Mp) (k : String → Prop) : Prop := match d with
  | .non => k "NoneType"
  | .bl _ => k "bool"
  | .int _ => k "int"
  | .str _ => k "str"
  | .tup _ => k "tuple"
  | .fl _ => k "list"
  | .ob a => (∃ xs, M a = some (.lst xs) ∧ k "list") ∨ (∃ xs, M a = some (.dic xs) ∧ k "dict")
  | .ty _ => False
  | .any => False
def isiD : D1L := fun ds M Q => match ds with
  | [d, .ty T] => T ∈ ["bool", "int", "str", "tuple", "list", "dict"] ∧ tyN d M fun t => Q (.bl (isiT t T)) M
  | _ => False
theorem tyX_of {K : PySem.W.Frag} {H : Hp} {M : Mp} {d : D} {x : V} {k : String → Prop} (r : RD K H d x) (m : RM K H M) (h : tyN d M k) : ∃ t, t ∈ ["NoneType", "bool", "int", "str", "tuple", "list", "dict"] ∧ TyX K H x (.type t) ∧ k t := by
  cases d with
  | non => cases r; exact ⟨_, by decide, .base .non, h⟩
  | bl b => cases r; exact ⟨_, by decide, .base (.bl b), h⟩
  | int i => cases r; exact ⟨_, by decide, .base (.int i), h⟩
  | str s => obtain ⟨rfl, _⟩ := r; exact ⟨_, by decide, .base (.str _), h⟩
  | tup ds =>
    obtain ⟨a, xs, rfl, s, _⟩ := r
    rcases s with (s | ⟨o, s⟩) | ⟨o, its, n, s, c, _⟩
    · exact ⟨_, by decide, .base (.tup s), h⟩
    · exact ⟨_, by decide, .fTuple s, h⟩
    · exact ⟨_, by decide, .kTuple s c, h⟩
  | fl ds =>
    obtain ⟨a, xs, rfl, s, _⟩ := r
    rcases s with ⟨o, s⟩ | ⟨o, its, n, s, c, _⟩
    · exact ⟨_, by decide, .base (.frz s), h⟩
    · exact ⟨_, by decide, .kList s c, h⟩
  | ob a =>
    cases r
    rcases h with ⟨xs, e, h⟩ | ⟨xs, e, h⟩
    · obtain ⟨us, z, _⟩ := m _ _ e
      exact ⟨_, by decide, .base (.lst z), h⟩
    · obtain ⟨us, z, _⟩ := m _ _ e
      exact ⟨_, by decide, .base (.dK z), h⟩
  | ty n => exact h.elim
  | any => exact h.elim
theorem ol_isi {K : PySem.W.Frag} : OL K (rIsi K) isiD := by
  intro xs ds H M Q Q' r m w k
  unfold isiD at w
  split at w
  · obtain ⟨v, u, rfl, r1, rfl⟩ := rds2 r
    obtain ⟨hT, w⟩ := w
    obtain ⟨t, ht, ty, q⟩ := tyX_of r1 m w
    exact ⟨v, _, _, _, _, rfl, .ty _, ty, kit_ty (isi_all t ht _ hT), k _ H _ M (TK.refl H) RD.blI m q⟩
  · exact w.elim
/-! ### sep.join(list or tuple of texts) -/
def strsD : List D → Option (List Tx)
  | [] => some []
  | .str s :: r => (strsD r).map (s :: ·)
  | _ :: _ => none
def joinT (sep : Tx) : List Tx → Tx
  | [] => []
  | [x] => x
  | x :: y :: r => x ++ sep ++ joinT sep (y :: r)
def joinOk (sep : Tx) (ss : List Tx) : Prop := (ss.map (·.length)).sum + ss.length * sep.length ≤ 16777216
def joinD : DMt := fun d ds M Q => match d, ds with
  | .str sep, [.ob a] => onL M a fun xs => ∃ ss, strsD xs = some ss ∧ joinOk sep ss ∧ Q (.str (joinT sep ss)) M
  | .str sep, [.tup xs] => ∃ ss, strsD xs = some ss ∧ joinOk sep ss ∧ Q (.str (joinT sep ss)) M
  | _, _ => False
theorem strs_rds {K : PySem.W.Frag} {H : Hp} : ∀ {xs : List D} {us : List V} {ss : List Tx}, RDs K H xs us → strsD xs = some ss → us = (ss.map fun s => (⟨s.toArray⟩ : Str)).map V.str ∧ ∀ s ∈ ss, okc s
  | [], _, _, r, h => by
    cases r
    cases h
    exact ⟨rfl, fun s z => by cases z⟩
  | .str s :: xs, _, _, r, h => by
    obtain ⟨v, vs, rfl, r1, r2⟩ := r
    obtain ⟨rfl, ok⟩ := r1
    unfold strsD at h
    cases e : strsD xs with
    | none => rw [e] at h; cases h
    | some ss =>
      rw [e] at h
      cases h
      obtain ⟨h1, h2⟩ := strs_rds r2 e
      refine ⟨by rw [h1]; rfl, fun z hz => ?_⟩
      rcases List.mem_cons.mp hz with hz | hz
      · rw [hz]; exact ok
      · exact h2 z hz
  | .non :: _, _, _, _, h => by cases h
  | .bl _ :: _, _, _, _, h => by cases h
  | .int _ :: _, _, _, _, h => by cases h
  | .tup _ :: _, _, _, _, h => by cases h
  | .fl _ :: _, _, _, _, h => by cases h
  | .ob _ :: _, _, _, _, h => by cases h
  | .ty _ :: _, _, _, _, h => by cases h
  | .any :: _, _, _, _, h => by cases h
theorem join_of' (sep : Tx) : ∀ ss : List Tx, Str.join ⟨sep.toArray⟩ (ss.map fun s => (⟨s.toArray⟩ : Str)) = ⟨(joinT sep ss).toArray⟩
  | [] => rfl
  | [x] => rfl
  | x :: y :: r => by
    have ih := join_of' sep (y :: r)
    simp only [List.map_cons] at ih ⊢
    show (⟨x.toArray⟩ : Str) ++ ⟨sep.toArray⟩ ++ Str.join ⟨sep.toArray⟩ (⟨y.toArray⟩ :: r.map fun s => (⟨s.toArray⟩ : Str)) = _
    rw [ih, str_app, str_app]; rfl
theorem join_of (sep : Tx) (ss : List Tx) : Txt.join ⟨sep.toArray⟩ (ss.map fun s => (⟨s.toArray⟩ : Str)) = ⟨(joinT sep ss).toArray⟩ := (TL.join_eq _ _).trans (join_of' sep ss)
theorem okc_join {sep : Tx} (h : okc sep) : ∀ {ss : List Tx}, (∀ s ∈ ss, okc s) → okc (joinT sep ss)
  | [], _ => okc_nil
  | [x], k => k x (by simp)
  | x :: y :: r, k => okc_append (okc_append (k x (by simp)) h) (okc_join h fun s hs => k s (List.mem_cons_of_mem _ hs))
def rJoin (K : PySem.W.Frag) : V → List V → Hp → VK → Prop := fun x xs H Q => ∃ a p, ∃ ys : List Str, x = .str a ∧ xs = [.ref p] ∧ (SqL K H p (ys.map V.str) ∨ SqT K H p (ys.map V.str)) ∧
    (ys.map (·.length)).sum + ys.length * a.length ≤ 16777216 ∧ Q (.str (Txt.join a ys)) H
theorem map_lens (ss : List Tx) : ((ss.map fun s => (⟨s.toArray⟩ : Str)).map (·.length)) = ss.map (·.length) := by
  rw [List.map_map]
  exact List.map_congr_left fun s _ => str_len
theorem om_join {K : PySem.W.Frag} : OM K (rJoin K) joinD := by
  intro x xs d ds H M Q Q' r1 r2 m w k
  unfold joinD at w
  split at w
  · obtain ⟨rfl, ok⟩ := r1
    obtain ⟨v, rfl, rfl⟩ := rds1 r2
    obtain ⟨ys, e1, ss, hs, hz, w⟩ := w
    obtain ⟨us, h, t⟩ := m _ _ e1
    obtain ⟨e2, oks⟩ := strs_rds t hs
    refine ⟨_, _, _, rfl, rfl, .inl (by rw [← e2]; exact SqL.of h), ?_, ?_⟩
    · rw [map_lens, List.length_map, str_len]; exact hz
    · rw [join_of]
      exact k _ H _ M (TK.refl H) (RD.strI (okc_join ok oks)) m w
  · obtain ⟨rfl, ok⟩ := r1
    obtain ⟨v, rfl, ⟨a, us, rfl, s, t⟩⟩ := rds1 r2
    obtain ⟨ss, hs, hz, w⟩ := w
    obtain ⟨e2, oks⟩ := strs_rds t hs
    refine ⟨_, _, _, rfl, rfl, .inr (by rw [← e2]; exact s), ?_, ?_⟩
    · rw [map_lens, List.length_map, str_len]; exact hz
    · rw [join_of]
      exact k _ H _ M (TK.refl H) (RD.strI (okc_join ok oks)) m w
  · exact w.elim
theorem qe_join {apos : Pos} (ho : QE X W o wo) (ha : QE X W e wa) (he : starEach [e] X.env = (false, eval e X.env) :: starEach [] X.env := by rfl) (hbase : attributeBase o "join" X.env (eval o X.env) = eval o X.env := by rfl)
    (hfew : ((backTo pos (starEach [e] X.env)).all (fun x => !x.1) && (backToKw pos (keywordEach [] X.env)).all (fun x => x.1.isSome)
      && decide ([e].length + ([] : List Keyword).length + (if ([] : List Keyword).isEmpty then 0 else 1) < 30)) = true := by rfl)
    (hline : (apos.endLine == pos.line) = true := by rfl) : QE X W (.Call (.Attribute o "join" apos) [e] [] pos) (wBM "str" joinD wo (wCons wa wNil)) :=
  qe_bm PySem.F.plainAttrs_str PySem.F.slot_str_join PySem.F.type_str_join mt_join om_join ho (qa_cons ha qa_nil he) hbase hfew hline he
/-! ### comprehensions -/
def wipeD (δ : Env) : List Nat → Env
  | [] => δ
  | v :: vs => (wipeD δ vs).set v none
theorem RS.unset {K : PySem.W.Frag} {H : Hp} {δ : Env} {σ : L2.St} (h : RS K H δ σ) (i : Nat) : RS K H (δ.set i none) (σ.set i none) := by
  refine ⟨by simp [h.1], fun j d q => ?_⟩
  by_cases hj : j = i
  · subst hj
    by_cases hl : j < δ.length
    · rw [List.getElem?_set_self hl] at q; cases q
    · rw [List.getElem?_eq_none_iff.mpr (by simp; omega)] at q; cases q
  · rw [List.getElem?_set_ne (Ne.symm hj)] at q ⊢
    exact h.2 j d q
theorem RS.wipe {K : PySem.W.Frag} {H : Hp} {δ : Env} {σ : L2.St} (h : RS K H δ σ) : ∀ vs, RS K H (wipeD δ vs) (L2.wipe σ vs)
  | [] => h
  | v :: vs => (RS.wipe h vs).unset v
abbrev QTs (X : Cx) (W : WX) (ifs : List Expr) (w : DT) : Prop := PTs X ifs (cT X.K W w)
def wYes : DT := fun _ M Q _ => Q true M
theorem pts_weak {e : List Expr} {t t' : TT} (h : PTs X e t) (k : ∀ σ H Q, t' σ H Q → t σ H Q) : PTs X e t' := ⟨fun pins s σ H Q I q => h.run pins s σ H Q I (k σ H Q q)⟩
theorem qts_nil : QTs X W [] wYes := pts_weak pts_nil fun σ H Q ⟨H0, δ, M, Q', XX, p, w, k⟩ => k true H M (TK.refl H) p.rm w
theorem qts_one (h : QT X W c tc) : QTs X W [c] tc := pts_one h
abbrev W0 : WX := fun _ _ _ _ => False
/-- what a comprehension asks, once its items are known; p is the new list -/
def LcOk (it : DIt) (vs : List Nat) (g : DG) (tt : DT) (te : DE) (δ : Env) (M : Mp) (p : Addr) (Q : Mp → Prop) : Prop := ∃ I : Nat → Mp → Prop, I 0 (upm M p (.lst [])) ∧ (∀ i M, i ≤ it.xs.length → I i M → it.G M) ∧
  (∀ i d M, it.xs[i]? = some d → I i M → g d (wipeD δ vs) M fun δ2 M2 => tt δ2 M2 (fun b M3 => if b = true then te δ2 M3 (fun y M4 => ∃ acc, M4 p = some (.lst acc) ∧ acc.length < sizeLine ∧ I (i + 1) (upm M4 p (.lst (acc ++ [y])))) (fun _ _ => False) else I (i + 1) M3) (fun _ _ => False)) ∧
  ∀ M, I it.xs.length M → Q M
def wLc (vs : List Nat) (wi : DI) (g : DG) (tt : DT) (te : DE) : DE := fun δ M Q E => wi δ M (fun it M1 => ∀ p, M1 p = none → LcOk it vs g tt te δ M1 p (Q (.ob p))) E
theorem lc_list {xs : List D} {G : Mp → Prop} {vs : List Nat} {g : DG} {tt : DT} {te : DE} {δ : Env} {M : Mp} {p : Addr} {Q : Mp → Prop} (I : Nat → Mp → Prop) (h0 : I 0 (upm M p (.lst []))) (hG : ∀ i M, i ≤ xs.length → I i M → G M)
    (hs : ∀ i d M, xs[i]? = some d → I i M → g d (wipeD δ vs) M fun δ2 M2 => tt δ2 M2 (fun b M3 => if b = true then te δ2 M3 (fun y M4 => ∃ acc, M4 p = some (.lst acc) ∧ acc.length < sizeLine ∧ I (i + 1) (upm M4 p (.lst (acc ++ [y])))) (fun _ _ => False) else I (i + 1) M3) (fun _ _ => False))
    (hd : ∀ M, I xs.length M → Q M) : LcOk ⟨xs, G⟩ vs g tt te δ M p Q := ⟨I, h0, hG, hs, hd⟩
theorem lf0 {K : PySem.W.Frag} {H : Hp} {W : WX} : Lf K H W fun _ _ _ => False := fun _ _ _ _ _ _ _ _ _ _ _ z => z.elim
theorem lc_of {vs : List Nat} {wi : DI} {g : DG} {tt : DT} {te : DE} {σ : L2.St} {H : Hp} {Q : VK} {K : PySem.W.Frag} (h : cE K W (wLc vs wi g tt te) σ H Q) : tLc (cI K W wi) (cG K vs g) (cT K W0 tt) (cE K W0 te) vs σ H Q := by
  obtain ⟨H0, δ, M, Q', XX, p, w, k⟩ := h
  refine ⟨H0, δ, M, _, XX, p, w, fun J H1 it M1 k1 m1 wk w1 D hD => ?_⟩
  obtain ⟨I, i0, hG, turn, fin⟩ := w1 D (m1.none hD)
  have tD : TK H1 (upd H1 D (.lst [])) := TK.new hD
  have mD : RM K (upd H1 D (.lst [])) (upm M1 D (.lst [])) := m1.new hD (RO.lstI (xs := []) upd_same rfl)
  refine ⟨fun i m H' => m = it.xs.length - i ∧ i ≤ it.xs.length ∧ ∃ M', TK H1 H' ∧ RM K H' M' ∧ I i M', ⟨_, rfl, Nat.zero_le _, _, tD, mD, i0⟩, ?_⟩
  rintro i m H2 ⟨rfl, hi, M2, k2, m2, i2⟩
  have g2 := hG i M2 hi i2
  by_cases hlt : i < it.xs.length
  · refine .inr ⟨wk.goes i H2 M2 k2 m2 g2 hlt, fun H' => ∃ m', m' < it.xs.length - i ∧ (m' = it.xs.length - (i + 1) ∧ i + 1 ≤ it.xs.length ∧ ∃ M', TK H1 H' ∧ RM K H' M' ∧ I (i + 1) M'), fun H' z => z, fun x H3 y => ?_⟩
    obtain ⟨d, hd, k3, rd, m3⟩ := wk.yields i x H2 H3 M2 k2 m2 g2 hlt y
    refine ⟨wipeD δ vs, M2, d, _, ((p.rs.tk k1).tk (k2.trans k3)).wipe vs, m3, rd, turn i d M2 hd i2, fun σ4 H4 δ4 M4 k4 rs4 m4 hw q => ⟨?_, ?_⟩⟩
    · have ww : ∀ (τ : L2.St) (us : List Nat), L2.wipe (L2.wipe τ us) us = L2.wipe τ us := by
        intro τ us
        have z : ∀ (ls : List Nat), (∀ x ∈ ls, x ∈ us) → L2.wipe (L2.wipe τ us) ls = L2.wipe τ us := by
          intro ls
          induction ls with
          | nil => intro _; rfl
          | cons a l ih =>
            intro hl
            show (L2.wipe (L2.wipe τ us) l).set a none = _
            rw [ih fun x hx => hl x (List.mem_cons_of_mem _ hx)]
            have ha : a ∈ us := hl a List.mem_cons_self
            apply List.ext_getElem?
            intro j
            by_cases hj : j = a
            · subst hj
              by_cases hlen : j < (L2.wipe τ us).length
              · rw [List.getElem?_set_self hlen]
                cases q1 : (L2.wipe τ us)[j]? with
                | none => rw [List.getElem?_eq_none_iff] at q1; omega
                | some o =>
                  cases o with
                  | none => rfl
                  | some v => exact absurd ha (L2.wipe_some q1).2
              · rw [List.getElem?_eq_none (by simp; omega), List.getElem?_eq_none (by omega)]
            · rw [List.getElem?_set_ne (Ne.symm hj)]
        exact z us fun _ h => h
      rw [hw, ww]
    · refine ⟨H4, δ4, M4, _, fun _ _ _ => False, ⟨TK.refl H4, lf0, rs4, m4⟩, q, fun b H5 M5 k5 m5 q5 => ?_⟩
      have kk := k2.trans (k3.trans (k4.trans k5))
      cases b with
      | true =>
        rw [if_pos rfl] at q5
        show if true = true then _ else _
        rw [if_pos rfl]
        refine ⟨H5, δ4, M5, _, fun _ _ _ => False, ⟨TK.refl H5, lf0, rs4.tk k5, m5⟩, q5, fun v H6 dy M6 k6 rd6 m6 q6 => ?_⟩
        obtain ⟨acc, ea, hz, q6⟩ := q6
        obtain ⟨us, h6, t6⟩ := m6 _ _ ea
        have kp := TK.put (o := .lst (us ++ [v])) h6 notPerm_lst
        exact ⟨us, h6, by rw [← t6.length]; exact hz, it.xs.length - (i + 1), by omega, rfl, hlt, _, kk.trans (k6.trans kp), m6.put h6 notPerm_lst (RO.lstI upd_same (RDs.tk kp (t6.append (RDs.oneI rd6)))), q6⟩
      | false =>
        rw [if_neg Bool.false_ne_true] at q5
        show if false = true then _ else _
        rw [if_neg Bool.false_ne_true]
        exact ⟨it.xs.length - (i + 1), by omega, rfl, hlt, M5, kk, m5, q5⟩
  · have e : i = it.xs.length := by omega
    subst e
    exact .inl ⟨wk.stops H2 M2 k2 m2 g2, k _ H2 _ M2 (k1.trans k2) RD.obI m2 (fin M2 i2)⟩
theorem qe_lc {elt tg iter : Expr} {ifs : List Expr} {scope : Scope} {own : List (Str × Nat)} {wi : DI} {g : DG} {tt : DT} {te : DE} (hc : X.calm = true) (hN : X.N.Nodup) (hi : QI X W tg iter wi) (ok : BlkOk X.N X.env.scope scope own)
    (hg : ∀ (s : Shared) (H : Hp) (C : Addr) (cl : List (Str × Addr)) (fp : List Addr), QG (X.blk s H scope (compEnvC scope cl C X.env) fp) (own.map (·.2)) tg g) (ht : ∀ (s : Shared) (H : Hp) (C : Addr) (cl : List (Str × Addr)) (fp : List Addr), QTs (X.blk s H scope (compEnvC scope cl C X.env) fp) W0 ifs tt)
    (he : ∀ (s : Shared) (H : Hp) (C : Addr) (cl : List (Str × Addr)) (fp : List Addr), QE (X.blk s H scope (compEnvC scope cl C X.env) fp) W0 elt te) (hs : ∀ x, foldedSetIterable iter X.env x = pure x := by intro _; rfl) :
    QE X W (.ListComp elt [⟨tg, iter, ifs, 0⟩] scope pos) (wLc (own.map (·.2)) wi g tt te) :=
  pe_weak (pe_lc hc hN hi ok hg ht he hs) fun _ _ _ h => lc_of h
/-- name = [..] on one line -/
theorem qs_setLc (i : Nat) {y : Str} {py : Pos} {elt tg iter : Expr} {ifs : List Expr} {scope : Scope} {own : List (Str × Nat)} {spos : Pos} {wi : DI} {g : DG} {tt : DT} {te : DE} (hc : X.calm = true) (hN : X.N.Nodup)
    (hsw : swapsWith (.ListComp elt [⟨tg, iter, ifs, 0⟩] scope pos) (some (.Name y py)) spos.line X.env = pure true) (hi : QI X W tg iter wi) (ok : BlkOk X.N X.env.scope scope own)
    (hg : ∀ (s : Shared) (H : Hp) (C : Addr) (cl : List (Str × Addr)) (fp : List Addr), QG (X.blk s H scope (compEnvC scope cl C X.env) fp) (own.map (·.2)) tg g) (ht : ∀ (s : Shared) (H : Hp) (C : Addr) (cl : List (Str × Addr)) (fp : List Addr), QTs (X.blk s H scope (compEnvC scope cl C X.env) fp) W0 ifs tt)
    (he : ∀ (s : Shared) (H : Hp) (C : Addr) (cl : List (Str × Addr)) (fp : List Addr), QE (X.blk s H scope (compEnvC scope cl C X.env) fp) W0 elt te) (hy : X.N[i]? = some y := by rfl) (hyl : X.env.scope.names.lookup y = some .local := by rfl) (hs : ∀ x, foldedSetIterable iter X.env x = pure x := by intro _; rfl) :
    QS X W (.Assign [.Name y py] (.ListComp elt [⟨tg, iter, ifs, 0⟩] scope pos) spos) (wAsg (wLc (own.map (·.2)) wi g tt te) (gN i)) :=
  ps_weak (ps_setLc hc hN hy hyl hsw hi ok hg ht he hs) fun D σ H ⟨H0, δ, M, D', p, w, le⟩ => lc_of ⟨H0, δ, M, _, D'.xx, p, w, fun v H' d M' k rd rm q => le.nx _ H' _ M' k ((p.rs.tk k).set i rd) rm q⟩
end
end QL
namespace QL
open PySem PySem.Spec PyProof.Rows L2
section
variable {M : Mp} {Q : KD} {x y : Tx} {i j : Int} {xs ys : List D} {a b : Addr} {B : Bool → Mp → Prop} {k : String → Prop} {d e : D} {lo hi : Option Int} {f : Int → Int → D} {C : Int → Int → Prop} {neg bb : Bool} {T : String}
theorem e_add_i : addD (.int i) (.int j) M Q = Q (.int (i + j)) M := rfl
theorem e_add_s : addD (.str x) (.str y) M Q = (x.length + y.length ≤ sizeLine ∧ Q (.str (x ++ y)) M) := rfl
theorem e_add_t : addD (.tup xs) (.tup ys) M Q = (xs.length + ys.length ≤ sizeLine ∧ Q (.tup (xs ++ ys)) M) := rfl
theorem e_add_o : addD (.ob a) (.ob b) M Q = onL M a fun xs => onL M b fun ys => xs.length + ys.length ≤ sizeLine ∧ ∀ p, M p = none → Q (.ob p) (upm M p (.lst (xs ++ ys))) := rfl
theorem e_int : intD C f (.int i) (.int j) M Q = (C i j ∧ Q (f i j) M) := rfl
theorem e_int0 : int0D f (.int i) (.int j) M Q = Q (f i j) M := rfl
theorem e_mul_i : mulD (.int i) (.int j) M Q = (CMul i j ∧ Q (.int (i * j)) M) := rfl
theorem e_mul_s : mulD (.str x) (.int i) M Q = ((-1000000 ≤ i ∧ i ≤ 1000000 ∧ x.length * i.toNat ≤ sizeLine ∧ x.length ≤ sizeLine) ∧ Q (.str (List.replicate i.toNat x).flatten) M) := rfl
theorem e_in_s : inD neg d (.str x) M Q = ∃ c, d = .str [c] ∧ Q (.bl (xor neg (decide (c ∈ x)))) M := rfl
theorem e_in_t : inD neg d (.tup xs) M Q = (okN 64 d = true ∧ okN 64 (.tup xs) = true ∧ Q (.bl (xor neg (xs.any fun x => deq x d))) M) := rfl
theorem e_in_o : inD neg d (.ob a) M Q = onL M a fun xs => okN 64 d = true ∧ okN 64 (.tup xs) = true ∧ Q (.bl (xor neg (xs.any fun x => deq x d))) M := rfl
theorem e_ix_s : ixD (.str x) (.int i) M Q = (x.length ≤ sizeLine ∧ ∃ c, atI x i = some c ∧ Q (.str [c]) M) := rfl
theorem e_ix_t : ixD (.tup xs) (.int i) M Q = ∃ x, atI xs i = some x ∧ Q x M := rfl
theorem e_ix_f : ixD (.fl xs) (.int i) M Q = ∃ x, atI xs i = some x ∧ Q x M := rfl
theorem e_ix_o : ixD (.ob a) (.int i) M Q = onL M a fun xs => ∃ x, atI xs i = some x ∧ Q x M := rfl
theorem e_sl_s : slD (.str x) lo hi M Q = (x.length ≤ sizeLine ∧ Q (.str (cut x lo hi)) M) := rfl
theorem e_sl_t : slD (.tup xs) lo hi M Q = Q (.tup (cut xs lo hi)) M := rfl
theorem e_sl_o : slD (.ob a) lo hi M Q = onL M a fun xs => ∀ p, M p = none → Q (.ob p) (upm M p (.lst (cut xs lo hi))) := rfl
theorem e_tru_n : truD .non M B = B false M := rfl
theorem e_tru_b : truD (.bl bb) M B = B bb M := rfl
theorem e_tru_i : truD (.int i) M B = B (i != 0) M := rfl
theorem e_tru_s : truD (.str x) M B = (x.length ≤ sizeLine ∧ B (!x.isEmpty) M) := rfl
theorem e_tru_t : truD (.tup xs) M B = B (!xs.isEmpty) M := rfl
theorem e_len_s : lenD [.str x] M Q = (x.length ≤ sizeLine ∧ Q (.int x.length) M) := rfl
theorem e_len_t : lenD [.tup xs] M Q = Q (.int xs.length) M := rfl
theorem e_len_f : lenD [.fl xs] M Q = Q (.int xs.length) M := rfl
theorem e_len_o : lenD [.ob a] M Q = onL M a fun xs => Q (.int xs.length) M := rfl
theorem e_abs : absD [.int i] M Q = Q (.int (if i < 0 then -i else i)) M := rfl
theorem e_max : maxD [.int i, .int j] M Q = Q (.int (max i j)) M := rfl
theorem e_min : minD [.int i, .int j] M Q = Q (.int (min i j)) M := rfl
theorem e_int_i : intOf [.int i] M Q = Q (.int i) M := rfl
theorem e_int_b : intOf [.bl bb] M Q = Q (.int (if bb then 1 else 0)) M := rfl
theorem e_int_s : intOf [.str x] M Q = (x.length ≤ 640 ∧ ∃ n, PySem.intText? ⟨x.toArray⟩ = some n ∧ Q (.int n) M) := rfl
theorem e_str_i : QL.strOf [.int i] M Q = (i.natAbs < 2 ^ 1000 ∧ Q (.str (tx (toString i))) M) := rfl
theorem e_str_s : QL.strOf [.str x] M Q = Q (.str x) M := rfl
theorem e_isi : isiD [d, .ty T] M Q = (T ∈ ["bool", "int", "str", "tuple", "list", "dict"] ∧ tyN d M fun t => Q (.bl (isiT t T)) M) := rfl
theorem e_ty_n : tyN .non M k = k "NoneType" := rfl
theorem e_ty_b : tyN (.bl bb) M k = k "bool" := rfl
theorem e_ty_i : tyN (.int i) M k = k "int" := rfl
theorem e_ty_s : tyN (.str x) M k = k "str" := rfl
theorem e_ty_t : tyN (.tup xs) M k = k "tuple" := rfl
theorem e_ty_f : tyN (.fl xs) M k = k "list" := rfl
theorem e_app : appendD (.ob a) [d] M Q = onL M a fun xs => xs.length < sizeLine ∧ Q .non (upm M a (.lst (xs ++ [d]))) := rfl
theorem e_ext : extendD (.ob a) [.ob b] M Q = onL M a fun xs => onL M b fun ys => xs.length + ys.length ≤ sizeLine ∧ Q .non (upm M a (.lst (xs ++ ys))) := rfl
theorem e_join_o : joinD (.str x) [.ob a] M Q = onL M a fun xs => ∃ ss, strsD xs = some ss ∧ joinOk x ss ∧ Q (.str (joinT x ss)) M := rfl
theorem e_join_t : joinD (.str x) [.tup xs] M Q = ∃ ss, strsD xs = some ss ∧ joinOk x ss ∧ Q (.str (joinT x ss)) M := rfl
theorem e_none_n : isNone .non = true := rfl
theorem e_none_b : isNone (.bl bb) = false := rfl
theorem e_none_i : isNone (.int i) = false := rfl
theorem e_none_s : isNone (.str x) = false := rfl
theorem e_none_t : isNone (.tup xs) = false := rfl
theorem e_none_f : isNone (.fl xs) = false := rfl
theorem e_none_o : isNone (.ob a) = false := rfl
end
theorem tyN_list {M : Mp} {a : Addr} {xs : List D} {k : String → Prop} (h : M a = some (.lst xs)) : tyN (.ob a) M k = k "list" := by
  apply propext
  refine ⟨fun z => ?_, fun z => .inl ⟨xs, h, z⟩⟩
  rcases z with ⟨_, _, z⟩ | ⟨_, e, _⟩
  · exact z
  · rw [h] at e; cases e
end QL
namespace QL
open PySem PySem.Spec PyProof.Rows L2
/-! ### the end: the law is called on the script alone -/
theorem script_reads {K : PySem.W.Frag} {H : Hp} {a : Addr} {ns : List Int} (hO : Only H) (hS : SqL K H a (ns.map V.int)) : RDs K H [.fl (ns.map D.int)] [V.ref a] := by
  refine RDs.oneI ⟨a, _, rfl, ?_, RDs.ints ns⟩
  rcases hS with (h | ⟨o, h⟩) | h
  · rcases hO a with z | ⟨o, xs, z⟩
    · rw [z] at h; cases h
    · rw [z] at h; cases h
  · exact .inl ⟨o, h⟩
  · exact .inr h
theorem walkD {l : PySem.W.OpenLaw} {k : Nat} {q : Program} {loose : List Str} {XP : (Str → Option Value) → Heap → Prop} {YP : World → Heap → Prop} {d : DefRec} {K : Params → PySem.W.Frag} {sp : SpD}
    (hn : l.most = some 63) (hdf : d.params.defaults = []) (hr : Room k callerA) (hY : ∀ (w : World) (h : Heap), YP w h → (K w.params).In h)
    (F : ∀ (w : World) (mg : Str → Option Value) (fa : Addr) (h : Heap), (K w.params).In h → h.Ns mainGlobals mg → mg d.name = some (.ref fa) →
      ∃ fd : FuncData, (∀ (s : Shared) (u : Value), BindsTo s fd ⟨[u], []⟩ [("_law_script", u)]) ∧
        ∀ base : Heap, (K w.params).In base → base.Ns mainGlobals mg → FnD l.prog w (K w.params) mg base k fa fd ["_law_script"] sp)
    (good : ∀ ns : List Int, ns.length ≤ 63 → sp [.fl (ns.map D.int)] (fun _ => none) (fun d _ => d = .bl true) (fun _ _ => False)) :
    PySem.W.WalkO q loose XP YP l.row.toRowW d [] (fun f vs => PySem.call f vs) := by
  refine L2.walk_of (CX := fun w => L2.CX l.prog w) (sp := fun w => lsp (K w.params) sp) hn (by decide) hdf hr hY F (fun w H a ns h1 h2 h3 => ?_) (fun w H s e s' c => ?_)
  · refine ⟨_, fun _ => none, fun d _ => d = .bl true, fun _ _ => False, script_reads h2 h3, (fun _ _ z => nomatch z), good ns h1, fun v H' d M' _ hd _ q => ?_, fun _ _ _ _ _ _ _ _ z => z.elim⟩
    cases q
    exact hd
  · obtain ⟨_, _, _, _, _, _, _, _, _, _, _, _, z⟩ := c
    exact z.elim
end QL
namespace QL
open PySem PySem.Spec PyProof.Rows L2
/-! ### an except clause that keeps the exception -/
noncomputable def isX (K : PySem.W.Frag) (cv : Value) (C : Addr) : Option Bool := by
  classical exact if ExcC K C then PySem.W.kitOne K (.ref C) cv else none
abbrev dictH (d : Option Addr) (fs : List (Str × D)) (M : Mp) : Mp := match d with
  | some dd => upm M dd (.xd fs)
  | none => M
def wTryAs (i : Nat) (h : Addr → Option Bool) (wb : DS) (ws : Addr → Addr → Option Addr → DS) : DS := fun D δ M => wb { D with xx := fun x δ' M' => ∃ b, h x.cls = some b ∧
  (b = true → ∀ a d, (x.fs = [] → d = none) → (x.fs ≠ [] → ∃ dd, d = some dd ∧ (M' dd = none ∨ ∃ gs, M' dd = some (.xd gs))) →
    ws a x.cls d { nx := fun δ M => D.nx (δ.set i none) M, rt := D.rt, bk := fun δ M => D.bk (δ.set i none) M, ct := fun δ M => D.ct (δ.set i none) M } (δ'.set i (some (.ob a))) (dictH d x.fs M')) ∧
  (b = false → D.xx x δ' M') } δ M
section
/-- isinstance(e, T), e the exception that the clause keeps -/
noncomputable def isiK (K : PySem.W.Frag) (t : D) (C : Addr) : Option Bool := match t with
  | .ob X => isX K (.ref X) C
  | .ty n => isX K (.type n) C
  | _ => none
def exmK (K : PySem.W.Frag) (X C : Addr) : Option Bool := PySem.W.exmOne K (.ref C) (.ref X)
theorem exm_own {K : PySem.W.Frag} {C X : Addr} {b : Bool} (h1 : PySem.W.subIn K (.ref X) (.type "BaseException") = some true) (hd : PySem.W.hasDictIn K X = true) (ht : PySem.W.typeIn K (.ref X) = some (.type "type")) (h4 : PySem.W.subIn K (.ref C) (.ref X) = some b) : exmK K X C = some b := PySem.W.exm_ref h1 hd ht h4
def isED (it : D → Addr → Option Bool) (a C : Addr) (d : Option Addr) : D1L := fun ds M Q => match ds with
  | [.ob a', t] => a' = a ∧ d = none ∧ ∃ b, it t C = some b ∧ Q (.bl b) M
  | _ => False
theorem e_isE {it : D → Addr → Option Bool} {a a' C : Addr} {d : Option Addr} {t : D} {M : Mp} {Q : KD} : isED it a C d [.ob a', t] M Q = (a' = a ∧ d = none ∧ ∃ b, it t C = some b ∧ Q (.bl b) M) := rfl
/-- e.f -/
def wXf (a C : Addr) (d : Option Addr) (C0 : Addr) (f : Str) (we : DE) : DE := fun δ M Q E => we δ M (fun x M1 => x = .ob a ∧ C = C0 ∧ ∃ dd fs v, d = some dd ∧ M1 dd = some (.xd fs) ∧ fs.lookup f = some v ∧ Q v M1) E
end
end QL
namespace QL
open PySem PySem.Spec PyProof.Rows L2
/-! ### tuples of texts that the module has written -/
def GTup (K : PySem.W.Frag) (mg : Str → Option Value) (x : Str) (ds : List D) : Prop := ∃ p us, mg x = some (.ref p) ∧ (∀ H, SqT K H p us) ∧ ∀ H, RDs K H ds us
theorem gtup_of {K : PySem.W.Frag} {mg : Str → Option Value} {x : Str} {p : Addr} {dd : Option Addr} {nn : Nat} {ll : Array (Option Value)} (l : List (String × Tok)) (hl : l.length ≤ 1000) (m : mg x = some (.ref p))
    (o : K.lookup p = some ⟨.type "tuple", dd, .seq (l.map fun e => Value.str (Str.ofString e.1) e.2).toArray nn, ll⟩) : GTup K mg x (l.map fun e => .str (tx e.1)) := by
  refine ⟨p, l.map fun e => V.str (Str.ofString e.1), m, fun H => .inr ⟨_, _, _, o, rfl, rfl, by rw [sizeLine_eq]; simp; omega, ?_⟩, fun H => ?_⟩
  · show Vals _ (l.map _)
    clear o hl
    induction l with
    | nil => exact .nil
    | cons e l ih => exact .cons ⟨e.2, rfl⟩ ih
  · clear o hl
    induction l with
    | nil => rfl
    | cons e l ih => exact ⟨_, _, rfl, ⟨congrArg V.str (str_of e.1), okc_tx _⟩, ih⟩
section
variable {X : Cx} {W : WX} {a b c e o : Expr} {es : List Expr} {wa wb wo : DE} {ws : DA} {tc : DT} {pos : Pos}
theorem qe_gtup {x : Str} {ds : List D} (g : GTup X.K X.mg x ds) (hg : Gl X x) (hd : (x == ("__debug__" : Str)) = false := by decide +kernel) : QE X W (.Name x pos) (wC (.tup ds)) := by
  obtain ⟨p, us, m, s, r⟩ := g
  exact qe_glob (v := .ref p) (fun H => ⟨p, us, rfl, s H, r H⟩) hg m rfl hd
/-! ### a dict with text keys that the module has written -/
def GDic (w : World) (K : PySem.W.Frag) (mg : Str → Option Value) (x : Str) (ds : List (Tx × D)) : Prop :=
  ∃ p es n, mg x = some (.ref p) ∧ KDict K w p es n ∧ (∀ z v, ds.lookup z = some v → ∃ u v', PySem.W.nsIn K p ⟨z.toArray⟩ = some (some u) ∧ RelV v' u ∧ ∀ H, RD K H v v') ∧ ∀ z, ds.lookup z = none → PySem.W.nsIn K p ⟨z.toArray⟩ = some none
def dent (P : Params) (l : List (String × Tok × Int × Tok)) : List DictEntry := l.map fun e => ⟨PyData.keyHash P (Str.ofString e.1), .str (Str.ofString e.1) e.2.1, .int e.2.2.1 e.2.2.2⟩
theorem dent_lit {P : Params} : ∀ l, PySem.W.KeysLit P (dent P l)
  | [] => trivial
  | e :: l => ⟨⟨_, _, rfl, rfl⟩, dent_lit l⟩
theorem str_beq (s : String) (z : Tx) : (Str.ofString s == (⟨z.toArray⟩ : Str)) = (z == tx s) := by
  rw [str_of, Bool.eq_iff_iff, beq_iff_eq, beq_iff_eq]
  constructor
  · intro h; injection h with h; exact (Array.toList_inj.mpr h.symm : z = tx s)
  · intro h; rw [h]
theorem dent_find {P : Params} (z : Tx) : ∀ l, (dent P l).find? (fun e => e.key.isStr ⟨z.toArray⟩) = none ∧ (l.map fun e => (tx e.1, D.int e.2.2.1)).lookup z = none ∨
    ∃ e i t, (dent P l).find? (fun e => e.key.isStr ⟨z.toArray⟩) = some e ∧ e.val = .int i t ∧ (l.map fun e => (tx e.1, D.int e.2.2.1)).lookup z = some (.int i)
  | [] => .inl ⟨rfl, rfl⟩
  | e :: l => by
    have hs : (Value.str (Str.ofString e.1) e.2.1).isStr ⟨z.toArray⟩ = (z == tx e.1) := (show (Str.ofString e.1 == (⟨z.toArray⟩ : Str)) = _ from str_beq e.1 z)
    cases q : z == tx e.1 with
    | true =>
      rw [q] at hs
      refine .inr ⟨⟨PyData.keyHash P (Str.ofString e.1), .str (Str.ofString e.1) e.2.1, .int e.2.2.1 e.2.2.2⟩, _, _, ?_, rfl, ?_⟩
      · exact List.find?_cons_of_pos (p := fun e : DictEntry => e.key.isStr ⟨z.toArray⟩) (a := ⟨PyData.keyHash P (Str.ofString e.1), .str (Str.ofString e.1) e.2.1, .int e.2.2.1 e.2.2.2⟩) hs
      · rw [List.map_cons, List.lookup_cons, q]
    | false =>
      rw [q] at hs
      have h1 : (dent P (e :: l)).find? (fun e => e.key.isStr ⟨z.toArray⟩) = (dent P l).find? (fun e => e.key.isStr ⟨z.toArray⟩) := by
        exact List.find?_cons_of_neg (p := fun e : DictEntry => e.key.isStr ⟨z.toArray⟩) (a := ⟨PyData.keyHash P (Str.ofString e.1), .str (Str.ofString e.1) e.2.1, .int e.2.2.1 e.2.2.2⟩) (by rw [hs]; decide)
      rw [h1, List.map_cons, List.lookup_cons, q]
      exact dent_find z l
theorem dent_ref {P : Params} : ∀ l, (dent P l).any (fun e => e.refKey) = false
  | [] => rfl
  | e :: l => by
    show (_ || (dent P l).any _) = false
    rw [dent_ref l]; rfl
theorem gdic_of {w : World} {K : PySem.W.Frag} {mg : Str → Option Value} {x : Str} {p : Addr} {nn : Nat} (l : List (String × Tok × Int × Tok)) (m : mg x = some (.ref p)) (low : (p == sysModules) = false)
    (o : K.lookup p = some ⟨.type "dict", none, .dict (dent w.params l).toArray nn, #[]⟩) : GDic w K mg x (l.map fun e => (tx e.1, .int e.2.2.1)) := by
  have ns : ∀ z : Tx, PySem.W.nsIn K p ⟨z.toArray⟩ = match (dent w.params l).find? (fun e => e.key.isStr ⟨z.toArray⟩) with
      | some e => some (some e.val)
      | none => some none := fun z => by
    unfold PySem.W.nsIn
    rw [o]
    show (match (dent w.params l).toArray.toList.find? _ with | some e => some (some e.val) | none => if (dent w.params l).toArray.toList.any (·.refKey) then none else some none) = _
    rw [List.toList_toArray, dent_ref]
    rfl
  refine ⟨p, _, nn, m, ⟨o, by rw [List.toList_toArray]; exact dent_lit l, low⟩, fun z v h => ?_, fun z h => ?_⟩
  · rcases dent_find (P := w.params) z l with ⟨a, b⟩ | ⟨e, i, t, a, b, c⟩
    · rw [h] at b; cases b
    · rw [h] at c; cases c
      exact ⟨e.val, .int i, by rw [ns, a], by rw [b]; exact ⟨t, rfl⟩, fun _ => RD.intI⟩
  · rcases dent_find (P := w.params) z l with ⟨a, b⟩ | ⟨e, i, t, a, b, c⟩
    · rw [ns, a]
    · rw [h] at c; cases c
def wIxK (ds : List (Tx × D)) (wb : DE) : DE := fun δ M Q E => wb δ M (fun e M1 => ∃ z v, e = .str z ∧ ds.lookup z = some v ∧ Q v M1) E
def ixKD (p : Addr) (ds : List (Tx × D)) : D2 := fun d e M Q => d = .ob p ∧ ∃ z v, e = .str z ∧ ds.lookup z = some v ∧ Q v M
theorem qe_ixK {x : Str} {ds : List (Tx × D)} {np : Pos} (g : GDic X.w X.K X.mg x ds) (hg : Gl X x) (hb : QE X W b wb) (hs : PlainIx b := by intro _ _; rfl) (hd : (x == ("__debug__" : Str)) = false := by decide +kernel) :
    QE X W (.Subscript (.Name x np) b pos) (wIxK ds wb) := by
  obtain ⟨p, es, n, m, kd, k, _⟩ := g
  have hn : QE X W (.Name x np) (wC (.ob p)) := qe_glob (v := .ref p) (fun H => RD.obI) hg m rfl hd
  have o : O2 X.K (rIxD X.K X.w) (ixKD p ds) := by
    intro x y d e H M Q Q' r1 r2 rm w q
    obtain ⟨rfl, z, v, rfl, hl, w⟩ := w
    cases r1
    obtain ⟨rfl, _⟩ := r2
    obtain ⟨u, v', hv, rv, ru⟩ := k z v hl
    exact ⟨p, _, v', rfl, rfl, ⟨es, n, u, kd.at_, kd.lit, hv, rv⟩, q _ H _ M (TK.refl H) (ru H) rm w⟩
  have h : QE X W (.Subscript (.Name x np) b pos) (wOp (ixKD p ds) (wC (.ob p)) wb) := pe_weak (pe_ix ix_kdict hn hb hs) fun _ _ _ h => two o h
  refine pe_weak h fun σ H Q z => ?_
  obtain ⟨H0, δ, M, Q', XX, pr, w, kk⟩ := z
  refine ⟨H0, δ, M, Q', XX, pr, ?_, kk⟩
  have w : wb δ M (fun e M1 => ∃ z v, e = .str z ∧ ds.lookup z = some v ∧ Q' v M1) (fun x M => XX x δ M) := w
  show wb δ M (fun e M1 => ixKD p ds (.ob p) e M1 Q') (fun x M => XX x δ M)
  have e : (fun e M1 => ixKD p ds (.ob p) e M1 Q') = fun e M1 => ∃ z v, e = D.str z ∧ ds.lookup z = some v ∧ Q' v M1 := by
    funext e M1
    exact propext ⟨fun z => z.2, fun z => ⟨rfl, z⟩⟩
  rw [e]; exact w
/-- e in the dict, e not in it -/
def wInK (neg : Bool) (ds : List (Tx × D)) (wb : DE) : DE := fun δ M Q E => wb δ M (fun e M1 => ∃ z, e = .str z ∧ Q (.bl (xor neg (ds.lookup z).isSome)) M1) E
/-! ### max of a pair of ints -/
theorem max_tup2 {prog : Program} {w : World} {A : Around} {E : Value → Shared → Prop} {s : Shared} {p : Addr} {i j : Int} {t u : Tok} {Q : Value → Shared → Prop} (hh : A.handled = none) (hT : s.heap.IsTuple p (intItems #[(i, t), (j, u)]))
    (h : ∀ h' tk, (∀ c o, s.heap.get? c = some o → h'.get? c = some o) → Q (if j > i then .int j u else .int i t) { s with heap := h', toks := tk }) :
    wpAny (model prog w) A (call (.builtin "max") [.ref p]) Q E s := by
  have hp : p < s.heap.objs.size := by
    obtain ⟨o, ho, _⟩ := hT
    exact Heap.lt_size ho
  refine call_max_walk (wpAny_pyIter_tuple hT ?_)
  refine ⟨_, [_, p], [_], _, _, _, _, rfl, Walks.tuple (A := A.in1) hh _ p (Nat.ne_of_lt hp) (intItems #[(i, t), (j, u)]), ⟨⟨_, Heap.get?_push_size _ rfl, rfl, rfl⟩, hT.push _⟩, fun c hc => ?_, by simp [intItems],
    CmpOf.ints_gt (numAt #[(i, t), (j, u)]) (fun _ _ => intItems_at), fun v h' tk hP hk => ?_⟩
  · show c < (s.heap.push _).objs.size
    rw [Heap.size_push]
    rcases List.mem_cons.mp hc with rfl | hc
    · exact Nat.lt_succ_self _
    · rw [List.mem_singleton.mp hc]; exact Nat.lt_succ_of_lt hp
  · have old : ∀ c o, s.heap.get? c = some o → h'.get? c = some o := fun c o e => by
      refine hk c o (fun hm => ?_) (Heap.get?_push_of_some _ e)
      have := Heap.lt_size e
      rw [List.mem_singleton.mp hm] at this
      exact Nat.lt_irrefl _ this
    have q := h h' tk old
    have hv : v = if j > i then Value.int j u else Value.int i t := by
      have z2 : (intItems #[(i, t), (j, u)]).size - 1 = 1 := by simp [intItems]
      rw [z2] at hP
      by_cases g : j > i
      · have e : argBest (fun x y => decide (numAt #[(i, t), (j, u)] x > numAt #[(i, t), (j, u)] y)) 1 = 1 := by simp [argBest, numAt, g]
        have hP : (intItems #[(i, t), (j, u)])[argBest (fun x y => decide (numAt #[(i, t), (j, u)] x > numAt #[(i, t), (j, u)] y)) 1]? = some v := hP
        rw [e] at hP
        simpa [intItems, g] using hP.symm
      · have e : argBest (fun x y => decide (numAt #[(i, t), (j, u)] x > numAt #[(i, t), (j, u)] y)) 1 = 0 := by simp [argBest, numAt, g]
        have hP : (intItems #[(i, t), (j, u)])[argBest (fun x y => decide (numAt #[(i, t), (j, u)] x > numAt #[(i, t), (j, u)] y)) 1]? = some v := hP
        rw [e] at hP
        simpa [intItems, g] using hP.symm
    rw [hv]; exact q
def rMaxT2 (K : PySem.W.Frag) : List V → Hp → VK → Prop := fun xs H Q => ∃ p i j, xs = [.ref p] ∧ SqT K H p [.int i, .int j] ∧ Q (.int (if j > i then j else i)) H
theorem call_maxT (hc : X.calm = true) : CallR X (.builtin "max") (rMaxT2 X.K) := by
  intro pins s σ H xs us Q I r h
  obtain ⟨p, i, j, rfl, hs, q⟩ := h
  obtain ⟨its, rv, ⟨o, ho, hcl, n, hd⟩, _⟩ := I.tuple hs
  rw [Vals.ref1 r]
  obtain ⟨t, u, rfl⟩ := Vals.int2 rv
  refine max_tup2 (i := i) (j := j) (t := t) (u := u) (I.ok.hd hc) ⟨o, ho, hcl, n, by simpa [intItems] using hd⟩ fun h' tk k => ⟨_, H, I.kept k, ?_, q⟩
  by_cases g : j > i
  · rw [if_pos g, if_pos g]; exact ⟨_, rfl⟩
  · rw [if_neg g, if_neg g]; exact ⟨_, rfl⟩
def maxTD : D1L := fun ds M Q => match ds with
  | [.tup [.int i, .int j]] => Q (.int (max i j)) M
  | _ => False
theorem ol_maxT {K : PySem.W.Frag} : OL K (rMaxT2 K) maxTD := by
  intro xs ds H M Q Q' r m w k
  unfold maxTD at w
  split at w
  · rename_i i j
    obtain ⟨v, rfl, ⟨a, us, rfl, s, t⟩⟩ := rds1 r
    obtain ⟨v, u, rfl, rfl, rfl⟩ := rds2 t
    have e : (if j > i then j else i) = max i j := by split <;> omega
    exact ⟨a, i, j, rfl, s, k _ H _ M (TK.refl H) (by rw [e]; exact RD.intI) m w⟩
  · exact w.elim
theorem e_maxT {i j : Int} {M : Mp} {Q : KD} : maxTD [.tup [.int i, .int j]] M Q = Q (.int (max i j)) M := rfl
/-! ### f-strings -/
def fmtD (d : D) (M : Mp) (Q : KD) : Prop := match d with
  | .str y => y.length ≤ sizeLine ∧ Q (.str y) M
  | .int i => i.natAbs < 2 ^ 1000 ∧ Q (.str (tx (toString i))) M
  | _ => False
theorem e_fmt_s {y : Tx} {M : Mp} {Q : KD} : fmtD (.str y) M Q = (y.length ≤ sizeLine ∧ Q (.str y) M) := rfl
theorem e_fmt_i {i : Int} {M : Mp} {Q : KD} : fmtD (.int i) M Q = (i.natAbs < 2 ^ 1000 ∧ Q (.str (tx (toString i))) M) := rfl
def wFmt (we : DE) : DE := fun δ M Q E => we δ M (fun d M1 => fmtD d M1 Q) E
theorem qj_val (he : QE X W e wa) : QE X W (.FormattedValue e (-1) none pos) (wFmt wa) := by
  refine pe_weak (pe_fmt he) fun σ H Q h => ?_
  obtain ⟨H0, δ, M, Q', XX, p, w, k⟩ := h
  refine ⟨H0, δ, M, _, XX, p, w, ?_⟩
  intro v H1 x M1 k1 r1 m1 w1
  revert w1
  unfold fmtD
  split
  · intro w1
    obtain ⟨rfl, ok⟩ := r1
    exact .inl ⟨_, rfl, by rw [str_len]; exact w1.1, k _ H1 _ M1 k1 (RD.strI ok) m1 w1.2⟩
  · intro w1
    cases r1
    refine .inr ⟨_, rfl, log_small w1.1, k _ H1 _ M1 k1 ?_ m1 w1.2⟩
    show _ = V.str _ ∧ _
    exact ⟨congrArg V.str (str_of _), okc_tx _⟩
  · intro w1; exact w1.elim
inductive QJ (X : Cx) (W : WX) : List Expr → List DE → Prop where
  | nil : QJ X W [] []
  | cons {e : Expr} {w : DE} {es : List Expr} {ws : List DE} (h : QE X W e w) (r : QJ X W es ws) : QJ X W (e :: es) (w :: ws)
theorem QJ.pj {es : List Expr} {ws : List DE} (h : QJ X W es ws) : PJ X es (ws.map (cE X.K W)) := by
  induction h with
  | nil => exact .nil
  | cons h r ih => exact .cons h ih
def wJ : List DE → Tx → DE
  | [], acc => fun δ M Q E => Q (.str acc) M
  | w :: ws, acc => fun δ M Q E => w δ M (fun d M1 => ∃ y, d = .str y ∧ (acc ++ y).length ≤ sizeLine ∧ wJ ws (acc ++ y) δ M1 Q E) E
theorem js_of {K : PySem.W.Frag} : ∀ {ws : List DE} {acc : Tx} {σ : L2.St} {H : Hp} {Q : VK}, okc acc → cE K W (wJ ws acc) σ H Q → tJs (ws.map (cE K W)) ⟨acc.toArray⟩ σ H (fun out H1 => Q (.str out) H1)
  | [], acc, σ, H, Q, ok, h => by
    obtain ⟨H0, δ, M, Q', XX, p, w, k⟩ := h
    exact k _ H _ M (TK.refl H) (RD.strI ok) p.rm w
  | w :: ws, acc, σ, H, Q, ok, h => by
    obtain ⟨H0, δ, M, Q', XX, p, w, k⟩ := h
    refine ⟨H0, δ, M, _, XX, p, w, ?_⟩
    intro v H1 d M1 k1 r1 m1 w1
    obtain ⟨y, rfl, hl, w1⟩ := w1
    obtain ⟨rfl, oky⟩ := r1
    have e : (⟨acc.toArray⟩ : Str) ++ ⟨y.toArray⟩ = ⟨(acc ++ y).toArray⟩ := by
      show (⟨acc.toArray ++ y.toArray⟩ : Str) = _
      simp
    refine ⟨_, rfl, by rw [e, str_len]; exact hl, ?_⟩
    rw [e]
    exact js_of (okc_append ok oky) ⟨H0, δ, M1, Q', XX, p.step k1 m1, w1, fun v H' d M' k2 => k v H' d M' (k1.trans k2)⟩
theorem qe_fstr {v1 v2 : Expr} {rest : List Expr} {ws : List DE} (h : QJ X W (v1 :: v2 :: rest) ws) : QE X W (.JoinedStr (v1 :: v2 :: rest) pos) (wJ ws []) :=
  pe_weak (pe_joined h.pj) fun σ H Q z => js_of (fun c hc => by cases hc) z
end
end QL
namespace QL
open PySem PySem.Spec PyProof.Rows L2 PySem.NumText
/-! ### small things for readings -/
theorem atI_cast {α : Type} (xs : List α) (n : Nat) : atI xs (n : Int) = xs[n]? := by
  unfold atI ixN
  rw [if_pos (by omega)]
  by_cases h : (n : Int) < xs.length
  · rw [if_pos h]
    simp
  · rw [if_neg h]
    rw [List.getElem?_eq_none (by omega)]; rfl
theorem atI_0 {α : Type} (x : α) (xs : List α) : atI (x :: xs) 0 = some x := (atI_cast (x :: xs) 0).trans rfl
theorem atI_1 {α : Type} (x y : α) (xs : List α) : atI (x :: y :: xs) 1 = some y := (atI_cast (x :: y :: xs) 1).trans rfl
theorem atI_2 {α : Type} (x y z : α) (xs : List α) : atI (x :: y :: z :: xs) 2 = some z := (atI_cast (x :: y :: z :: xs) 2).trans rfl
theorem atI_3 {α : Type} (x y z u : α) (xs : List α) : atI (x :: y :: z :: u :: xs) 3 = some u := (atI_cast (x :: y :: z :: u :: xs) 3).trans rfl
theorem atI_l {α : Type} (x : α) (xs : List α) : atI (xs ++ [x]) (-1) = some x := atI_last xs x
theorem cut_nat {α : Type} (xs : List α) (i j : Nat) (hi : i ≤ xs.length) : cut xs (some (i : Int)) (some (j : Int)) = (xs.drop i).take (j - i) := by
  unfold cut
  rw [HT.sIx_nat, HT.sIx_nat, Nat.min_eq_left hi]
  by_cases h : j ≤ xs.length
  · rw [Nat.min_eq_left h]
  · rw [Nat.min_eq_right (by omega), List.take_of_length_le (by simp), List.take_of_length_le (by simp; omega)]
theorem line_eq : sizeLine = 16777216 := sizeLine_eq
/-! ### signs of a line: the mirror -/
def LET : Tx := tx "abcdefghijklmnopqrstuvwxyz"
def DIG : Tx := tx "0123456789"
def SYM : Tx := tx "(){}:=+-*<"
/-- how many of the first are of a kind -/
def spn (cs : Tx) (l : Tx) : Nat := (l.takeWhile fun c => decide (c ∈ cs)).length
theorem spn_in {cs : Tx} {c : Nat} {l : Tx} (h : c ∈ cs) : spn cs (c :: l) = spn cs l + 1 := by
  unfold spn; rw [List.takeWhile_cons, if_pos (decide_eq_true h)]; rfl
theorem spn_out {cs : Tx} {c : Nat} {l : Tx} (h : ¬ c ∈ cs) : spn cs (c :: l) = 0 := by
  unfold spn; rw [List.takeWhile_cons, if_neg (by simpa using h)]; rfl
theorem spn_le (cs l : Tx) : spn cs l ≤ l.length := by
  induction l with
  | nil => exact Nat.le_refl _
  | cons c l ih =>
    by_cases h : c ∈ cs
    · rw [spn_in h]; simp; exact ih
    · rw [spn_out h]; omega
theorem spn_mem {cs l : Tx} : ∀ c ∈ l.take (spn cs l), c ∈ cs := by
  induction l with
  | nil => intro c h; simp at h
  | cons a l ih =>
    intro c h
    by_cases ha : a ∈ cs
    · rw [spn_in ha, List.take_succ_cons] at h
      rcases List.mem_cons.mp h with e | e
      · rw [e]; exact ha
      · exact ih c e
    · rw [spn_out ha] at h; simp at h
theorem spn_app {cs a b : Tx} (ha : ∀ c ∈ a, c ∈ cs) (hb : ∀ c, b.head? = some c → ¬ c ∈ cs) : spn cs (a ++ b) = a.length := by
  induction a with
  | nil =>
    cases b with
    | nil => rfl
    | cons c b => exact spn_out (hb c rfl)
  | cons c a ih =>
    rw [List.cons_append, spn_in (ha c (by simp)), ih fun d hd => ha d (List.mem_cons_of_mem _ hd)]; rfl
def numB (ds : Tx) (lo hi : Int) : Option Int :=
  if ds = [] ∨ 7 < ds.length ∨ (ds.head? = some 48 ∧ 1 < ds.length) then none
  else if lo ≤ (digitsVal ds : Nat) ∧ ((digitsVal ds : Nat) : Int) ≤ hi then some ((digitsVal ds : Nat) : Int) else none
/-- the length of the word that stands first -/
def wordLen (l : Tx) : Option Nat :=
  if 8 < spn LET l then none
  else if l[spn LET l]? = some 46 then
    (if (numB ((l.drop (spn LET l + 1)).take (spn DIG (l.drop (spn LET l + 1)))) 2 99).isSome then some (spn LET l + 1 + spn DIG (l.drop (spn LET l + 1))) else none)
  else some (spn LET l)
def dW (w : Tx) : QL.D := .tup [.str (tx "word"), .str w]
def dN (n : Int) : QL.D := .tup [.str (tx "number"), .int n]
def dY (c : Nat) : QL.D := .tup [.str (tx "symbol"), .str [c]]
/-- the sign (none for a space) that stands first, and its length -/
def lex1 (c : Nat) (r : Tx) : Option (List QL.D × Nat) :=
  if c ∈ LET then (wordLen (c :: r)).map fun k => ([dW ((c :: r).take k)], k)
  else if c ∈ DIG then (numB ((c :: r).take (spn DIG (c :: r))) 0 1000000).map fun n => ([dN n], spn DIG (c :: r))
  else if c ∈ SYM then some ([dY c], 1)
  else if c = 32 then some ([], 1)
  else none
def lexF : Nat → Tx → Option (List QL.D)
  | 0, _ => some []
  | _ + 1, [] => some []
  | n + 1, c :: r => match lex1 c r with
    | none => none
    | some (t, k) => (lexF n ((c :: r).drop k)).map (t ++ ·)
def lex (l : Tx) : Option (List QL.D) := lexF l.length l
theorem wordLen_pos {c : Nat} {r : Tx} {k : Nat} (hc : c ∈ LET) (h : wordLen (c :: r) = some k) : 1 ≤ k ∧ k ≤ (c :: r).length := by
  unfold wordLen at h
  have h1 := spn_le LET (c :: r)
  have h0 : 1 ≤ spn LET (c :: r) := by rw [spn_in hc]; omega
  generalize spn LET (c :: r) = s at *
  split at h
  · cases h
  · split at h
    · rename_i e
      have h2 := spn_le DIG ((c :: r).drop (s + 1))
      have h3 : s < (c :: r).length := (List.getElem?_eq_some_iff.mp e).1
      split at h
      · cases h
        rw [List.length_drop] at h2
        omega
      · cases h
    · cases h; omega
theorem lex1_pos {c : Nat} {r : Tx} {t : List QL.D} {k : Nat} (h : lex1 c r = some (t, k)) : 1 ≤ k ∧ k ≤ (c :: r).length ∧ t.length ≤ 1 := by
  unfold lex1 at h
  split at h
  · rename_i hc
    cases e : wordLen (c :: r) with
    | none => rw [e] at h; cases h
    | some j =>
      rw [e] at h; cases h
      have := wordLen_pos hc e
      exact ⟨this.1, this.2, Nat.le_refl _⟩
  · split at h
    · rename_i hc
      cases e : numB ((c :: r).take (spn DIG (c :: r))) 0 1000000 with
      | none => rw [e] at h; cases h
      | some j =>
        rw [e] at h; cases h
        have h1 := spn_le DIG (c :: r)
        have h2 : 1 ≤ spn DIG (c :: r) := by rw [spn_in hc]; omega
        exact ⟨h2, h1, Nat.le_refl _⟩
    · split at h
      · cases h; simp
      · split at h
        · cases h; simp
        · cases h
theorem lexF_more : ∀ (n m : Nat) (l : Tx), l.length ≤ n → n ≤ m → lexF m l = lexF n l
  | 0, m, l, h, _ => by
    have : l = [] := List.eq_nil_of_length_eq_zero (by omega)
    subst this
    cases m <;> rfl
  | n + 1, m + 1, [], _, _ => rfl
  | n + 1, m + 1, c :: r, h, hm => by
    show (match lex1 c r with | none => none | some (t, k) => (lexF m ((c :: r).drop k)).map (t ++ ·)) = (match lex1 c r with | none => none | some (t, k) => (lexF n ((c :: r).drop k)).map (t ++ ·))
    cases e : lex1 c r with
    | none => rfl
    | some p =>
      obtain ⟨t, k⟩ := p
      have hp := lex1_pos e
      have : lexF m ((c :: r).drop k) = lexF n ((c :: r).drop k) := lexF_more n m _ (by rw [List.length_drop]; simp only [List.length_cons] at h ⊢; omega) (by omega)
      simp only [this]
theorem lex_cons (c : Nat) (r : Tx) : lex (c :: r) = match lex1 c r with
    | none => none
    | some (t, k) => (lex ((c :: r).drop k)).map (t ++ ·) := by
  unfold lex
  show (match lex1 c r with | none => none | some (t, k) => (lexF r.length ((c :: r).drop k)).map (t ++ ·)) = _
  cases e : lex1 c r with
  | none => rfl
  | some p =>
    obtain ⟨t, k⟩ := p
    have hp := lex1_pos e
    have : lexF r.length ((c :: r).drop k) = lexF ((c :: r).drop k).length ((c :: r).drop k) := lexF_more _ _ _ (Nat.le_refl _) (by rw [List.length_drop]; simp only [List.length_cons]; omega)
    simp only [this]
theorem lex_nil : lex [] = some [] := rfl
theorem digits_mem {c : Nat} (h : c ∈ DIG) : 48 ≤ c ∧ c ≤ 57 := by
  have : ∀ c ∈ DIG, 48 ≤ c ∧ c ≤ 57 := by decide
  exact this c h
theorem mem_digits {c : Nat} (h : 48 ≤ c ∧ c ≤ 57) : c ∈ DIG := by
  have : ∀ c : Fin 58, 48 ≤ c.val → c.val ∈ DIG := by decide
  exact this ⟨c, by omega⟩ h.1
theorem digits_all {l : Tx} (h : ∀ c ∈ l, c ∈ DIG) : AllDigits l := fun c hc => digits_mem (h c hc)
theorem int_text {l : Tx} (h : AllDigits l) (hne : l ≠ []) (hl : l.length ≤ 4300) : PySem.intText? ⟨l.toArray⟩ = some ((digitsVal l : Nat) : Int) := by
  have := intText_digits (x := ⟨l.toArray⟩) (by simpa using h) (by simpa using hne) (by rw [str_len]; exact hl)
  simpa using this
end QL
namespace QL
open PySem PySem.Spec PyProof.Rows L2
/-! ### a heap that has grown, and changed at one place at most -/
def Ext (q : Addr) (M M' : Mp) : Prop := ∀ a o, a ≠ q → M a = some o → M' a = some o
theorem Ext.refl (q : Addr) (M : Mp) : Ext q M M := fun _ _ _ h => h
theorem Ext.trans {q : Addr} {M M1 M2 : Mp} (a : Ext q M M1) (b : Ext q M1 M2) : Ext q M M2 := fun c o n h => b c o n (a c o n h)
theorem Ext.new {q p : Addr} {M M' : Mp} {o : MO} (a : Ext q M M') (h : M' p = none) : Ext q M (upm M' p o) := fun c u n e => by
  have z := a c u n e
  rw [upm_ne (mne z h)]; exact z
/-- an object that M did not have is written -/
theorem Ext.own {q p : Addr} {M M' : Mp} {o : MO} (a : Ext q M M') (h : M p = none) : Ext q M (upm M' p o) := fun c u n e => by
  rw [upm_ne (mne e h)]; exact a c u n e
theorem Ext.at {q : Addr} {M M' : Mp} {o : MO} (a : Ext q M M') : Ext q M (upm M' q o) := fun c u n e => by
  rw [upm_ne n]; exact a c u n e
theorem Ext.sub {q : Addr} {M M' : Mp} (a : Sub M M') : Ext q M M' := fun c u _ e => a c u e
theorem FnD.none {P : Program} {w : World} {K : PySem.W.Frag} {mg : Str → Option Value} {base : Heap} {k : Nat} {f : Addr} {fd : FuncData} {ps : List Str} : FnD P w K mg base k f fd ps (fun _ _ _ _ => False) :=
  ⟨fun _ _ _ _ ⟨_, _, _, _, _, _, z, _⟩ => z.elim, fun _ _ _ _ _ _ _ _ _ _ _ _ _ ⟨_, _, _, _, _, _, z, _⟩ => z.elim⟩
/-! ### the drawn digits: a list of digits, and a list that has the place -/
structure Stm (s p q : Addr) (xs : List Int) (M : Mp) : Prop where
  hs : M s = some (.lst [.ob p, .ob q])
  hp : M p = some (.lst (xs.map .int))
  hq : ∃ i : Int, 0 ≤ i ∧ M q = some (.lst [.int i])
  sq : s ≠ q
  pq : p ≠ q
  ne : xs ≠ []
  bd : ∀ x ∈ xs, 0 ≤ x ∧ x < 60
theorem Stm.ext {s p q : Addr} {xs : List Int} {M M' : Mp} (h : Stm s p q xs M) (e : Ext q M M') (hq : ∃ i : Int, 0 ≤ i ∧ M' q = some (.lst [.int i])) : Stm s p q xs M' :=
  ⟨e _ _ h.sq h.hs, e _ _ h.pq h.hp, hq, h.sq, h.pq, h.ne, h.bd⟩
/-- behind some draws -/
def Drawn (s p q : Addr) (xs : List Int) (M M' : Mp) : Prop := Ext q M M' ∧ Stm s p q xs M'
theorem Drawn.trans {s p q : Addr} {xs : List Int} {M M1 M2 : Mp} (a : Drawn s p q xs M M1) (b : Drawn s p q xs M1 M2) : Drawn s p q xs M M2 := ⟨a.1.trans b.1, b.2⟩
theorem Stm.drawn {s p q : Addr} {xs : List Int} {M : Mp} (h : Stm s p q xs M) : Drawn s p q xs M M := ⟨Ext.refl q M, h⟩
theorem mne' {M : Mp} {a b : Addr} {o : MO} (h : M a = some o) (h' : M b = none) : b ≠ a := (mne h h').symm
theorem Stm.neq {s p q a : Addr} {xs : List Int} {M : Mp} (h : Stm s p q xs M) (e : M a = none) : a ≠ q ∧ a ≠ p ∧ a ≠ s := by
  obtain ⟨i, _, hq⟩ := h.hq
  exact ⟨mne' hq e, mne' h.hp e, mne' h.hs e⟩
theorem Stm.new {s p q a : Addr} {xs : List Int} {M : Mp} {o : MO} (h : Stm s p q xs M) (e : M a = none) : Stm s p q xs (upm M a o) := by
  obtain ⟨n1, n2, n3⟩ := h.neq e
  obtain ⟨i, h0, hq⟩ := h.hq
  exact ⟨by rw [upm_ne (Ne.symm n3)]; exact h.hs, by rw [upm_ne (Ne.symm n2)]; exact h.hp, ⟨i, h0, by rw [upm_ne (Ne.symm n1)]; exact hq⟩, h.sq, h.pq, h.ne, h.bd⟩
theorem Stm.put {s p q a : Addr} {xs : List Int} {M : Mp} {o : MO} (h : Stm s p q xs M) (n1 : a ≠ q) (n2 : a ≠ p) (n3 : a ≠ s) : Stm s p q xs (upm M a o) := by
  obtain ⟨i, h0, hq⟩ := h.hq
  exact ⟨by rw [upm_ne (Ne.symm n3)]; exact h.hs, by rw [upm_ne (Ne.symm n2)]; exact h.hp, ⟨i, h0, by rw [upm_ne (Ne.symm n1)]; exact hq⟩, h.sq, h.pq, h.ne, h.bd⟩
/-! ### equal data -/
/-- no row is longer -/
def okL : QL.D → Bool
  | .tup xs => decide (xs.length ≤ 1000000) && okLs xs
  | .fl xs => decide (xs.length ≤ 1000000) && okLs xs
  | _ => true
where okLs : List QL.D → Bool
  | [] => true
  | x :: xs => okL x && okLs xs
mutual
theorem deq_self : ∀ {n : Nat} {d : QL.D}, okN n d = true → deq d d = true
  | _, .non, _ => rfl
  | _, .bl b, _ => by simp [deq, toP, PyData.eqv]
  | _, .int i, _ => by rw [deq_int]; simp
  | _, .str s, _ => by rw [deq_str]; simp
  | 0, .tup xs, h => by simp [okN] at h
  | n + 1, .tup xs, h => by
    show PyData.eqvAll (toP.toPs xs) (toP.toPs xs) = true
    exact deqs_self (n := n) (by simpa [okN] using h)
  | 0, .fl xs, h => by simp [okN] at h
  | n + 1, .fl xs, h => by
    show PyData.eqvAll (toP.toPs xs) (toP.toPs xs) = true
    exact deqs_self (n := n) (by simpa [okN] using h)
  | _, .ob _, h => by simp [okN] at h
  | _, .ty _, h => by simp [okN] at h
  | _, .any, h => by simp [okN] at h
theorem deqs_self : ∀ {n : Nat} {ds : List QL.D}, okN.okNs n ds = true → PyData.eqvAll (toP.toPs ds) (toP.toPs ds) = true
  | _, [], _ => rfl
  | n, d :: ds, h => by
    have h' : okN n d = true ∧ okN.okNs n ds = true := by simpa [okN.okNs] using h
    show (PyData.eqv (toP d) (toP d) && _) = true
    rw [show PyData.eqv (toP d) (toP d) = true from deq_self h'.1, deqs_self h'.2]; rfl
end
theorem okNs_get {n : Nat} : ∀ {ds : List QL.D} {i : Nat} {d : QL.D}, okN.okNs n ds = true → ds[i]? = some d → okN n d = true
  | [], _, _, _, e => by simp at e
  | x :: xs, 0, d, h, e => by
    have h' : okN n x = true ∧ okN.okNs n xs = true := by simpa [okN.okNs] using h
    simp at e; subst e; exact h'.1
  | x :: xs, i + 1, d, h, e => by
    have h' : okN n x = true ∧ okN.okNs n xs = true := by simpa [okN.okNs] using h
    exact okNs_get (i := i) h'.2 (by simpa using e)
theorem okLs_get : ∀ {ds : List QL.D} {i : Nat} {d : QL.D}, okL.okLs ds = true → ds[i]? = some d → okL d = true
  | [], _, _, _, e => by simp at e
  | x :: xs, 0, d, h, e => by
    have h' : okL x = true ∧ okL.okLs xs = true := by simpa [okL.okLs] using h
    simp at e; subst e; exact h'.1
  | x :: xs, i + 1, d, h, e => by
    have h' : okL x = true ∧ okL.okLs xs = true := by simpa [okL.okLs] using h
    exact okLs_get (i := i) h'.2 (by simpa using e)
mutual
theorem okN_mono : ∀ {n m : Nat} {d : QL.D}, okN n d = true → n ≤ m → okN m d = true
  | _, _, .non, _, _ => by simp [okN]
  | _, _, .bl b, _, _ => by simp [okN]
  | _, _, .int i, _, _ => by simp [okN]
  | _, _, .str s, _, _ => by simp [okN]
  | 0, _, .tup xs, h, _ => by simp [okN] at h
  | n + 1, m + 1, .tup xs, h, hm => by
    have := okNs_mono (n := n) (m := m) (ds := xs) (by simpa [okN] using h) (by omega)
    simpa [okN] using this
  | 0, _, .fl xs, h, _ => by simp [okN] at h
  | n + 1, m + 1, .fl xs, h, hm => by
    have := okNs_mono (n := n) (m := m) (ds := xs) (by simpa [okN] using h) (by omega)
    simpa [okN] using this
  | _, _, .ob _, h, _ => by simp [okN] at h
  | _, _, .ty _, h, _ => by simp [okN] at h
  | _, _, .any, h, _ => by simp [okN] at h
theorem okNs_mono : ∀ {n m : Nat} {ds : List QL.D}, okN.okNs n ds = true → n ≤ m → okN.okNs m ds = true
  | _, _, [], _, _ => rfl
  | n, m, d :: ds, h, hm => by
    have h' : okN n d = true ∧ okN.okNs n ds = true := by simpa [okN.okNs] using h
    simp [okN.okNs, okN_mono h'.1 hm, okNs_mono h'.2 hm]
end
end QL
namespace QL
open PySem PySem.Spec PyProof.Rows L2 PySem.NumText
/-! ### texts of numbers -/
def numT (n : Nat) : Tx := (Nat.toDigits 10 n).map Char.toNat
theorem tx_num (n : Nat) : tx (toString ((n : Nat) : Int)) = numT n := by
  have h := PySem.W.KIN.signs_num n
  rw [str_of] at h
  unfold numT
  simpa using h
theorem dig_val {d : Nat} (h : d < 10) : (Nat.digitChar d).toNat = 48 + d := by
  have : ∀ d : Fin 10, (Nat.digitChar d.val).toNat = 48 + d.val := by decide
  exact this ⟨d, h⟩
theorem numT_small {n : Nat} (h : n < 10) : numT n = [48 + n] := by
  unfold numT
  rw [Nat.toDigits_of_lt_base h]
  show [(Nat.digitChar n).toNat] = _
  rw [dig_val h]
theorem numT_big {n : Nat} (h : 10 ≤ n) : numT n = numT (n / 10) ++ [48 + n % 10] := by
  have t : Nat.toDigits 10 (n / 10) ++ Nat.toDigits 10 (n % 10) = Nat.toDigits 10 (10 * (n / 10) + n % 10) := Nat.toDigits_append_toDigits (by decide) (by omega) (Nat.mod_lt _ (by decide))
  rw [Nat.div_add_mod] at t
  unfold numT
  rw [← t, List.map_append]
  congr 1
  have := numT_small (n := n % 10) (by omega)
  unfold numT at this
  exact this
theorem numT_facts (n : Nat) : (∀ c ∈ numT n, c ∈ DIG) ∧ numT n ≠ [] ∧ digitsVal (numT n) = n ∧ (∀ k, 1 ≤ k → n < 10 ^ k → (numT n).length ≤ k) ∧ (1 ≤ n → (numT n).head? ≠ some 48) ∧ (10 ≤ n → 1 ≤ n) := by
  induction n using Nat.strongRecOn with
  | _ n ih =>
    by_cases h : n < 10
    · rw [numT_small h]
      refine ⟨fun c hc => ?_, by simp, by simp [digitsVal], fun k hk _ => by simpa using hk, fun h1 => by simp; omega, fun _ => by omega⟩
      rw [List.mem_singleton.mp hc]
      exact mem_digits (by omega)
    · rw [numT_big (by omega)]
      obtain ⟨a, b, c, d, e, _⟩ := ih (n / 10) (by omega)
      refine ⟨fun x hx => ?_, by simp, ?_, fun k hk hn => ?_, fun _ => ?_, fun _ => by omega⟩
      · rcases List.mem_append.mp hx with z | z
        · exact a x z
        · rw [List.mem_singleton.mp z]; exact mem_digits (by omega)
      · unfold digitsVal at c ⊢
        rw [List.foldl_append, c]
        simp only [List.foldl_cons, List.foldl_nil]
        omega
      · rw [List.length_append]
        obtain ⟨j, rfl⟩ : ∃ j, k = j + 1 := ⟨k - 1, by omega⟩
        have h2 : 1 ≤ j := by
          cases j with
          | zero => simp at hn; omega
          | succ j => omega
        have := d j h2 (by rw [Nat.pow_succ] at hn; omega)
        simp; omega
      · have := e (by omega)
        cases hq : numT (n / 10) with
        | nil => exact absurd hq b
        | cons x r => rw [hq] at this; simpa using this
theorem numT_dig (n : Nat) : ∀ c ∈ numT n, c ∈ DIG := (numT_facts n).1
theorem numT_ne (n : Nat) : numT n ≠ [] := (numT_facts n).2.1
theorem numT_len {n k : Nat} (hk : 1 ≤ k) (h : n < 10 ^ k) : (numT n).length ≤ k := (numT_facts n).2.2.2.1 k hk h
theorem numB_num {n : Nat} {lo hi : Int} (h7 : n < 10 ^ 7) (h1 : lo ≤ n) (h2 : (n : Int) ≤ hi) : numB (numT n) lo hi = some (n : Int) := by
  obtain ⟨_, b, c, d, e, _⟩ := numT_facts n
  unfold numB
  rw [if_neg, if_pos]
  · rw [c]
  · rw [c]; exact ⟨h1, h2⟩
  · rintro (z | z | ⟨z1, z2⟩)
    · exact b z
    · have := d 7 (by decide) h7; omega
    · by_cases h : 1 ≤ n
      · exact e h z1
      · have : n = 0 := by omega
        subst this
        rw [numT_small (by decide)] at z2
        simp at z2
/-! ### reading signs back -/
theorem digit_not_letter {c : Nat} (h : c ∈ DIG) : ¬ c ∈ LET ∧ ¬ c = 46 := by
  have := digits_mem h
  have z : ∀ c : Fin 58, c.val ∈ DIG → ¬ c.val ∈ LET ∧ ¬ c.val = 46 := by decide
  exact z ⟨c, by omega⟩ h
theorem sym_other {c : Nat} (h : c ∈ SYM) : ¬ c ∈ LET ∧ ¬ c ∈ DIG ∧ c ≠ 46 ∧ c ≠ 32 := by
  have : ∀ c ∈ SYM, ¬ c ∈ LET ∧ ¬ c ∈ DIG ∧ c ≠ 46 ∧ c ≠ 32 := by decide
  exact this c h
theorem let_other {c : Nat} (h : c ∈ LET) : ¬ c ∈ DIG ∧ c ≠ 46 ∧ c ≠ 32 ∧ ¬ c ∈ SYM := by
  have : ∀ c ∈ LET, ¬ c ∈ DIG ∧ c ≠ 46 ∧ c ≠ 32 ∧ ¬ c ∈ SYM := by decide
  exact this c h
theorem sp_other : ¬ (32 : Nat) ∈ LET ∧ ¬ (32 : Nat) ∈ DIG ∧ ¬ (32 : Nat) ∈ SYM := by decide
theorem lex_space (r : Tx) : lex (32 :: r) = lex r := by
  rw [lex_cons]
  unfold lex1
  rw [if_neg sp_other.1, if_neg sp_other.2.1, if_neg sp_other.2.2, if_pos rfl]
  show (lex r).map _ = _
  cases lex r <;> simp
theorem lex_spaces : ∀ (n : Nat) (r : Tx), lex (List.replicate n 32 ++ r) = lex r
  | 0, r => by simp
  | n + 1, r => by rw [List.replicate_succ, List.cons_append, lex_space, lex_spaces n r]
theorem lex_sym {c : Nat} {r : Tx} (h : c ∈ SYM) : lex (c :: r) = (lex r).map ([dY c] ++ ·) := by
  obtain ⟨h1, h2, _, _⟩ := sym_other h
  rw [lex_cons]
  unfold lex1
  rw [if_neg h1, if_neg h2, if_pos h]
  rfl
theorem take_app {a b : Tx} : (a ++ b).take a.length = a := by simp
theorem drop_app {a b : Tx} : (a ++ b).drop a.length = b := by simp
theorem lex_num {n : Nat} {r : Tx} (h : n ≤ 1000000) (hr : ∀ c, r.head? = some c → ¬ c ∈ DIG) : lex (numT n ++ r) = (lex r).map ([dN n] ++ ·) := by
  have hs : spn DIG (numT n ++ r) = (numT n).length := spn_app (numT_dig n) hr
  cases q : numT n with
  | nil => exact absurd q (numT_ne n)
  | cons c t =>
    rw [q] at hs
    have hc : c ∈ DIG := numT_dig n c (by rw [q]; simp)
    rw [List.cons_append] at hs ⊢
    rw [lex_cons]
    unfold lex1
    rw [if_neg (digit_not_letter hc).1, if_pos hc, hs]
    have e1 : (c :: (t ++ r)).take (c :: t).length = c :: t := take_app (a := c :: t)
    have e2 : (c :: (t ++ r)).drop (c :: t).length = r := drop_app (a := c :: t)
    rw [e1, ← q, numB_num (Nat.lt_of_le_of_lt h (by decide)) (by omega) (by omega)]
    simp only [Option.map_some]
    rw [q, e2]
theorem wordLen_plain {w r : Tx} (hw : ∀ c ∈ w, c ∈ LET) (h1 : w.length ≤ 8) (hr : ∀ c, r.head? = some c → ¬ c ∈ LET ∧ c ≠ 46) : wordLen (w ++ r) = some w.length := by
  have hs : spn LET (w ++ r) = w.length := spn_app hw fun c hc => (hr c hc).1
  unfold wordLen
  rw [hs, if_neg (by omega), if_neg]
  intro z
  rw [List.getElem?_append_right (Nat.le_refl _), Nat.sub_self, ← List.head?_eq_getElem?] at z
  exact (hr _ z).2 rfl
theorem wordLen_dot {w r : Tx} {n : Nat} (hw : ∀ c ∈ w, c ∈ LET) (h1 : w.length ≤ 8) (hn : 2 ≤ n ∧ n ≤ 99) (hr : ∀ c, r.head? = some c → ¬ c ∈ DIG) : wordLen (w ++ (46 :: numT n ++ r)) = some (w.length + 1 + (numT n).length) := by
  have hs : spn LET (w ++ (46 :: numT n ++ r)) = w.length := spn_app hw fun c hc => by
    have e : c = 46 := by simpa using hc.symm
    rw [e]; decide
  have e1 : (w ++ (46 :: numT n ++ r)).drop (w.length + 1) = numT n ++ r := by
    rw [List.drop_append, List.drop_eq_nil_of_le (by omega), show w.length + 1 - w.length = 1 by omega]; rfl
  have hd : spn DIG (numT n ++ r) = (numT n).length := spn_app (numT_dig n) hr
  unfold wordLen
  rw [hs, if_neg (by omega), if_pos, e1, hd, take_app, numB_num (by omega) (by omega) (by omega)]
  · rfl
  · rw [List.getElem?_append_right (Nat.le_refl _), Nat.sub_self]; rfl
/-- a word: letters, perhaps a dot and a number -/
def WordOk (w : Tx) : Prop := ∃ ls : Tx, ls ≠ [] ∧ ls.length ≤ 8 ∧ (∀ c ∈ ls, c ∈ LET) ∧ (w = ls ∨ ∃ n : Nat, 2 ≤ n ∧ n ≤ 99 ∧ w = ls ++ 46 :: numT n)
theorem WordOk.len {w : Tx} (h : WordOk w) : w.length ≤ 11 := by
  obtain ⟨ls, _, h1, _, rfl | ⟨n, h2, h3, rfl⟩⟩ := h
  · omega
  · have := numT_len (n := n) (k := 2) (by decide) (by omega)
    simp; omega
theorem lex_word {w r : Tx} (h : WordOk w) (h1 : 46 ∈ w → ∀ c, r.head? = some c → ¬ c ∈ DIG) (h2 : ¬ 46 ∈ w → ∀ c, r.head? = some c → ¬ c ∈ LET ∧ c ≠ 46) : lex (w ++ r) = (lex r).map ([dW w] ++ ·) := by
  obtain ⟨ls, hne, hl, hL, hw⟩ := h
  have no46 : ¬ 46 ∈ ls := fun z => (let_other (hL _ z)).2.1 rfl
  have hk : wordLen (w ++ r) = some w.length := by
    rcases hw with rfl | ⟨n, n1, n2, rfl⟩
    · exact wordLen_plain hL hl (h2 no46)
    · rw [List.append_assoc, List.cons_append, ← List.cons_append, wordLen_dot hL hl ⟨n1, n2⟩ (h1 (by simp))]
      simp; omega
  cases q : w with
  | nil =>
    rcases hw with rfl | ⟨n, n1, n2, rfl⟩
    · exact absurd q hne
    · simp at q
  | cons c t =>
    have hc : c ∈ LET := by
      cases hls : ls with
      | nil => exact absurd hls hne
      | cons d u =>
        have : c = d := by
          rcases hw with rfl | ⟨n, n1, n2, rfl⟩
          · rw [hls] at q; cases q; rfl
          · rw [hls] at q; cases q; rfl
        rw [this]; exact hL d (by rw [hls]; simp)
    rw [q] at hk
    rw [List.cons_append] at hk ⊢
    rw [lex_cons]
    unfold lex1
    rw [if_pos hc, hk]
    have e1 : (c :: (t ++ r)).take (c :: t).length = c :: t := take_app (a := c :: t)
    have e2 : (c :: (t ++ r)).drop (c :: t).length = r := drop_app (a := c :: t)
    simp only [Option.map_some]
    rw [e1, e2]
/-- a sign as it is drawn -/
inductive TokOk : QL.D → Prop where
  | sym (c : Nat) (h : c ∈ SYM) : TokOk (dY c)
  | num (n : Nat) (h : n ≤ 1000000) : TokOk (dN n)
  | word (w : Tx) (h : WordOk w) : TokOk (dW w)
def tokT : QL.D → Tx
  | .tup [_, .str s] => s
  | .tup [_, .int i] => tx (toString i)
  | _ => []
theorem tokT_sym (c : Nat) : tokT (dY c) = [c] := rfl
theorem tokT_num (n : Nat) : tokT (dN n) = numT n := tx_num n
theorem tokT_word (w : Tx) : tokT (dW w) = w := rfl
theorem tags : tx "word" ≠ tx "number" ∧ tx "word" ≠ tx "symbol" ∧ tx "number" ≠ tx "symbol" := by decide
theorem TokOk.ok {d : QL.D} (h : TokOk d) : okN 1 d = true ∧ okL d = true := by
  cases h <;> exact ⟨rfl, rfl⟩
theorem TokOk.len {d : QL.D} (h : TokOk d) : (tokT d).length ≤ 11 := by
  cases h with
  | sym c h => simp [tokT_sym]
  | num n h => rw [tokT_num]; have := numT_len (n := n) (k := 7) (by decide) (Nat.lt_of_le_of_lt h (by decide)); omega
  | word w h => rw [tokT_word]; exact h.len
end QL
namespace QL
open PySem PySem.Spec PyProof.Rows
/-! ### the text of a value, whatever is under way: some text of at most n signs -/
def ReprSo (prog : Program) (w : World) (h₀ : Heap) (d n : Nat) (x : Value) : Prop :=
  ∀ (b : Nat), b + n ≤ sizeLine → ∀ (A : Around) (E : Value → Shared → Prop) (s : Shared) (Q : Str → Shared → Prop), A.units + d < cLine → (∀ a o, h₀.get? a = some o → s.heap.get? a = some o) →
    (∀ (t : Str) (tk : Tok), t.length ≤ n → Q t { s with toks := tk }) → wpAny (model prog w) A (pyReprUnder b x) Q E s
theorem ReprSo.mono {prog : Program} {w : World} {h₀ : Heap} {d n e m : Nat} {x : Value} (h : ReprSo prog w h₀ d n x) (h1 : d ≤ e) (h2 : n ≤ m) : ReprSo prog w h₀ e m x := fun b hb A E s Q hu hk k =>
  h b (by omega) A E s Q (by omega) hk fun t tk ht => k t tk (by omega)
section
variable {prog : Program} {w : World} {A : Around} {E : Value → Shared → Prop} {h₀ : Heap} {d n : Nat}
theorem fold_some (hu : A.units + d < cLine) : ∀ (l : List Value) (acc : Array Str) (k : Nat) (s : Shared) (Q : (Array Str × Nat) → Shared → Prop), (∀ x ∈ l, ReprSo prog w h₀ d n x) → (∀ a o, h₀.get? a = some o → s.heap.get? a = some o) →
    k + l.length * (n + 2) ≤ sizeLine → (∀ (ts : List Str) (tk : Tok), ts.length = l.length → (∀ t ∈ ts, t.length ≤ n) → Q ⟨acc ++ ts.toArray, k + piled ts⟩ { s with toks := tk }) → wpAny (model prog w) A (forIn l (⟨acc, k⟩ : (Array Str × Nat)) tupBody) Q E s := by
  intro l
  induction l with
  | nil =>
    intro acc k s Q _ _ _ h
    have h0 := h [] s.toks rfl (by simp)
    simp only [List.forIn_nil]
    exact wpAny_pure (by simpa [piled] using h0)
  | cons x l ih =>
    intro acc k s Q hx hk hs h
    rw [List.forIn_cons]
    simp only [List.length_cons, Nat.succ_mul] at hs
    refine wpAny_bind (wpAny_bind (hx x (by simp) (k + 1) (by omega) _ _ _ _ hu hk fun t tk ht => wpAny_pure ?_))
    refine ih (acc.push t) (k + (t.length + 2)) _ Q (fun y hy => hx y (List.mem_cons_of_mem _ hy)) hk (by omega) fun ts tk' h1 h2 => ?_
    have h3 := h (t :: ts) tk' (by simp [h1]) (fun y hy => (List.mem_cons.mp hy).elim (fun e => e ▸ ht) (h2 y))
    have e : k + piled (t :: ts) = k + (t.length + 2) + piled ts := by rw [piled_cons]; omega
    rw [e] at h3
    simpa using h3
theorem piled_le : ∀ (ts : List Str), (∀ t ∈ ts, t.length ≤ n) → piled ts ≤ ts.length * (n + 2)
  | [], _ => by simp [piled]
  | t :: ts, h => by
    have h1 := h t (by simp)
    have h2 := piled_le ts fun y hy => h y (List.mem_cons_of_mem _ hy)
    rw [piled_cons]
    simp only [List.length_cons, Nat.succ_mul]
    omega
theorem rest_some {s : Shared} {a : Addr} {o : Obj} {items : Array Value} {k b : Nat} {Q : Fin → Shared → Prop} (hu : A.units + d < cLine) (ha : s.heap.get? a = some o) (hd : o.data = .seq items k) (hT : ∀ x ∈ items.toList, ReprSo prog w h₀ d n x) (hk : ∀ a o, h₀.get? a = some o → s.heap.get? a = some o)
    (hsz : b + items.size * (n + 2) + 8 ≤ sizeLine) (h : ∀ (m : Str) (u tk : Tok), m.length ≤ items.size * (n + 2) + 5 → Q (.done (.ret (.str m u))) { s with toks := tk }) :
    wpAny (model prog w) A (tupleReprRest b (.ref a)) Q E s := by
  have hl : items.toList.length = items.size := Array.length_toList
  unfold tupleReprRest Builtin.Tuple.tupleItemsOf
  refine wpAny_bind (wpAny_bind (wpAny_seqItems ha hd (wpAny_pure ?_)))
  rw [← Array.forIn_toList]
  refine wpAny_bind (fold_some hu _ _ _ _ _ hT hk (by rw [hl]; omega) fun ts tk h1 h2 => ?_)
  have hp := piled_le ts h2
  have ht := fmt_text ts
  rw [h1, hl] at hp
  rw [hl] at h1
  refine wpAny_bind (wpAny_mkStr (wpAny_pure ?_) ?_)
  · have h3 := h (tupleText ts) tk (tk + 1) (by omega)
    simpa [tupleText, h1] using h3
  · have : (tupleText ts).length ≤ sizeLine := by omega
    simpa [tupleText, h1] using this
theorem at_some {s : Shared} {a : Addr} {o : Obj} {items : Array Value} {k b : Nat} {Q : Fin → Shared → Prop} (hu : A.units + d < cLine) (ha : s.heap.get? a = some o) (hd : o.data = .seq items k) (hT : ∀ x ∈ items.toList, ReprSo prog w h₀ d n x) (hk : ∀ a o, h₀.get? a = some o → s.heap.get? a = some o)
    (hsz : b + items.size * (n + 2) + 8 ≤ sizeLine) (h : ∀ (m : Str) (u tk : Tok), m.length ≤ items.size * (n + 2) + 5 → Q (.done (.ret (.str m u))) { s with toks := tk }) :
    wpAny (model prog w) A (Builtin.tupleReprAt b ⟨[.ref a], []⟩) Q E s := by
  rw [tuple_repr_tree]
  refine wpAny_bind (fmt_underWay fun q => ?_)
  cases q with
  | true =>
    refine PySem.W.KFB.if_so rfl ?_
    refine wpAny_bind (wpAny_rule ?_)
    refine wpAny_bind (wpAny_mkStr (wpAny_pure ?_) (by decide +kernel))
    exact h "(...)" _ _ (Nat.le_trans fmt_way (Nat.le_add_left _ _))
  | false =>
    refine PySem.W.KFB.if_not rfl ?_
    exact rest_some hu ha hd hT hk hsz h
/-- a tuple in a tuple -/
theorem ReprSo.tup {a : Addr} {o : Obj} {items : Array Value} {k : Nat} (ha : h₀.get? a = some o) (hc : o.cls = .type "tuple") (hd : o.data = .seq items k) (hT : ∀ x ∈ items.toList, ReprSo prog w h₀ d n x) :
    ReprSo prog w h₀ (d + 1) (items.size * (n + 2) + 8) (.ref a) := by
  intro b hb A E s Q hu hk h
  have ha' := hk a o ha
  refine wpAny_pyReprUnder_ref (by omega) (wpAny_pyReprObjUnder_twin (twin := "tuple.__repr__.under") ⟨o, ha', hc⟩ F.slot_tuple_repr rfl (by omega) ?_)
  refine call_twin_own (F.quiet_tuple_repr_under _) F.entry_tuple_repr_under F.check_tuple_repr_under ⟨o, ha', hc⟩ F.slot_tuple_repr (F.args_tuple_repr_1 _) (wpOwn_of_wpAny ?_)
  refine at_some (d := d) (n := n) (by rw [units_under_tuple_repr_under]; omega) ha' hd hT hk (by omega) fun m u tk hm => ?_
  exact ⟨⟨_, _, rfl⟩, _, _, rfl, h m tk (by omega)⟩
end
end QL
namespace QL
open PySem PySem.Spec PyProof.Rows L2
/-- data whose text has at most n signs, at most d deep -/
def shD : Nat → Nat → D → Prop
  | _, n, .str s => 10 * s.length + 4 ≤ n
  | _, n, .int i => ∃ k : Nat, i = k ∧ k ≤ 1000000 ∧ 7 ≤ n
  | d + 1, n, .tup ds => ∃ m, ds.length * (m + 2) + 8 ≤ n ∧ ∀ x ∈ ds, shD d m x
  | _, _, _ => False
/-- str(i), str(text), str of a tuple: some text -/
def strTD : D1L := fun ds M Q => match ds with
  | [.tup ts] => (∃ d m, (∀ x ∈ ts, shD d m x) ∧ d ≤ 40 ∧ ts.length * (m + 2) + 8 ≤ 1000000) ∧ Q .any M
  | ds => strOf ds M Q
theorem e_strT_i {i : Int} {M : Mp} {Q : KD} : strTD [.int i] M Q = (i.natAbs < 2 ^ 1000 ∧ Q (.str (tx (toString i))) M) := rfl
theorem e_strT_s {x : Tx} {M : Mp} {Q : KD} : strTD [.str x] M Q = Q (.str x) M := rfl
theorem e_strT_t {ts : List D} {M : Mp} {Q : KD} : strTD [.tup ts] M Q = ((∃ d m, (∀ x ∈ ts, shD d m x) ∧ d ≤ 40 ∧ ts.length * (m + 2) + 8 ≤ 1000000) ∧ Q .any M) := rfl
end QL
namespace QL
open PySem PySem.Spec PyProof.Rows L2
section
variable {X : Cx} {W : WX} {e : Expr} {wa : DE}
/-! ### for c in text -/
def wItS (we : DE) : DI := fun δ M R E => we δ M (fun d M1 => ∃ s, d = .str s ∧ R ⟨s.map fun c => D.str [c], fun _ => True⟩ M1) E
theorem qi_str {tg : Expr} (he : QE X W e wa) : QI X W tg e (wItS wa) :=
  pi_weak (pi_str he) fun σ H R ⟨H0, δ, M, R', XX, p, w, k⟩ => ⟨H0, δ, M, _, XX, p, w, fun v H1 d M1 k1 r1 m1 w1 => by
    obtain ⟨s, rfl, w1⟩ := w1
    obtain ⟨rfl, ok⟩ := r1
    refine ⟨_, rfl, k _ H1 _ M1 k1 m1 ⟨fun i H' M' k2 _ _ hi => ?_, fun H' M' k2 _ _ => ?_, fun i x H' H'' M' k2 m2 _ hi y => ?_⟩ w1⟩
    · have hi : i < s.length := by simpa using hi
      show i < s.toArray.size
      simpa using hi
    · show s.toArray.size ≤ (s.map fun c => D.str [c]).length
      simp
    · have hi : i < s.length := by simpa using hi
      obtain ⟨rfl, c, hc, rfl⟩ := y
      have hc : s[i]? = some c := by simpa using hc
      refine ⟨.str [c], by simp [hc], TK.refl _, ⟨rfl, fun z hz => ?_⟩, m2⟩
      rw [List.mem_singleton.mp hz]
      exact ok c (List.mem_of_getElem? hc)⟩
end
end QL
namespace QL
open PySem PySem.Spec PyProof.Rows L2
/-! ### dicts with text keys -/
def isK (z : Tx) : D → Bool
  | .str y => z == y
  | _ => false
def getD (kvs : List (D × D)) (z : Tx) : Option D := (kvs.find? fun e => isK z e.1).map (·.2)
def putK' (kvs : List (D × D)) (z : Tx) (v : D) : List (D × D) :=
  if (kvs.any fun e => isK z e.1) = true then kvs.map (fun e => if isK z e.1 = true then (e.1, v) else e) else kvs ++ [(.str z, v)]
/-- the dict at a, locked or not -/
def onK (M : Mp) (a : Addr) (k : List (D × D) → Prop) : Prop := ∃ xs, (M a = some (.dic xs) ∨ M a = some (.fdk xs)) ∧ k xs
theorem onK_of {M : Mp} {a : Addr} {xs : List (D × D)} {k : List (D × D) → Prop} (h : M a = some (.dic xs)) : onK M a k = k xs := by
  apply propext
  refine ⟨fun ⟨ys, e, q⟩ => ?_, fun q => ⟨xs, .inl h, q⟩⟩
  rw [h] at e
  rcases e with e | e <;> cases e; exact q
theorem onK_fz {M : Mp} {a : Addr} {xs : List (D × D)} {k : List (D × D) → Prop} (h : M a = some (.fdk xs)) : onK M a k = k xs := by
  apply propext
  refine ⟨fun ⟨ys, e, q⟩ => ?_, fun q => ⟨xs, .inr h, q⟩⟩
  rw [h] at e
  rcases e with e | e <;> cases e; exact q
theorem onK_same {M : Mp} {a : Addr} {xs : List (D × D)} {k : List (D × D) → Prop} : onK (upm M a (.dic xs)) a k = k xs := onK_of upm_same
theorem onK_fsame {M : Mp} {a : Addr} {xs : List (D × D)} {k : List (D × D) → Prop} : onK (upm M a (.fdk xs)) a k = k xs := onK_fz upm_same
/-- .. to be written -/
def onKw (M : Mp) (a : Addr) (k : List (D × D) → Prop) : Prop := ∃ xs, M a = some (.dic xs) ∧ k xs
theorem onKw_of {M : Mp} {a : Addr} {xs : List (D × D)} {k : List (D × D) → Prop} (h : M a = some (.dic xs)) : onKw M a k = k xs := by
  apply propext
  refine ⟨fun ⟨ys, e, q⟩ => ?_, fun q => ⟨xs, h, q⟩⟩
  rw [h] at e; cases e; exact q
theorem onKw_same {M : Mp} {a : Addr} {xs : List (D × D)} {k : List (D × D) → Prop} : onKw (upm M a (.dic xs)) a k = k xs := onKw_of upm_same
section
variable {X : Cx} {W : WX} {a b c e o i : Expr} {es : List Expr} {wa wb wo we wk wv : DE} {pos apos pos' : Pos}
/-- {} -/
theorem qe_neg {n : Int} {j : Nat} {p1 : Pos} : QE X W (.UnaryOp .USub (.Constant (.int n) j p1) pos) (wC (.int (-n))) :=
  pe_weak (pe_un un_neg pe_int) fun σ H Q ⟨H0, δ, M, Q', XX, p, w, k⟩ => ⟨n, rfl, k _ H _ M (TK.refl H) RD.intI p.rm w⟩
def wDnew : DE := fun _ M Q _ => ∀ p, M p = none → Q (.ob p) (upm M p (.dic []))
/-- d[k] -/
def wDget (wo wk : DE) : DE := fun δ M Q E => wo δ M (fun x M1 => wk δ M1 (fun y M2 => ∃ a z, x = .ob a ∧ y = .str z ∧ onK M2 a fun kvs => ∃ v, getD kvs z = some v ∧ Q v M2) E) E
/-- d.get(k, x) -/
def wDget2 (wo wk wv : DE) : DE := fun δ M Q E => wo δ M (fun x M1 => ∃ a, x = .ob a ∧ (onK M1 a fun _ => True) ∧ wk δ M1 (fun y M2 => wv δ M2 (fun d M3 => ∃ z, y = .str z ∧ onK M3 a fun kvs => Q ((getD kvs z).getD d) M3) E) E) E
/-- d.get(k) -/
def wDget1 (wo wk : DE) : DE := fun δ M Q E => wo δ M (fun x M1 => ∃ a, x = .ob a ∧ (onK M1 a fun _ => True) ∧ wk δ M1 (fun y M2 => ∃ z, y = .str z ∧ onK M2 a fun kvs => Q ((getD kvs z).getD .non) M2) E) E
/-- d[k] = v -/
def wDput (wo wk wv : DE) : DS := fun D δ M => wv δ M (fun v M1 => wo δ M1 (fun x M2 => wk δ M2 (fun y M3 => ∃ a z, x = .ob a ∧ y = .str z ∧ onKw M3 a fun kvs => kvs.length < sizeLine ∧ D.nx δ (upm M3 a (.dic (putK' kvs z v)))) (fun x M => D.xx x δ M)) (fun x M => D.xx x δ M)) (fun x M => D.xx x δ M)
/-- k in d -/
def wInDic (neg : Bool) (wk wo : DE) : DE := fun δ M Q E => wk δ M (fun y M1 => wo δ M1 (fun x M2 => ∃ a z, x = .ob a ∧ y = .str z ∧ onK M2 a fun kvs => Q (.bl (xor neg (getD kvs z).isSome)) M2) E) E
end
/-! ### repr of such a dict, where no repr is under way -/
def psD (e : D × D) : Str := match e.1, e.2 with
  | .str z, .int i => reprText ⟨z.toArray⟩ ++ ": " ++ (toString i : String)
  | _, _ => Str.empty
def reprD (kvs : List (D × D)) : Tx := (dictText (kvs.map psD)).cps.toList
def GoodKey (z : Tx) : Prop := okc (reprText ⟨z.toArray⟩).cps.toList ∧ (reprText ⟨z.toArray⟩).length ≤ 1000
def ShE (e : D × D) : Prop := ∃ z i, e = (.str z, .int i) ∧ GoodKey z ∧ i.natAbs ≤ 1000000
section
variable {X : Cx} {W : WX} {e : Expr} {we : DE} {pos : Pos}
def reprOf : D1L := fun ds M Q => match ds with
  | [.ob a] => onK M a fun kvs => kvs.length ≤ 1000 ∧ (∀ e ∈ kvs, ShE e) ∧ Q (.str (reprD kvs)) M
  | _ => False
theorem e_repr {a : Addr} {M : Mp} {Q : KD} : reprOf [.ob a] M Q = onK M a fun kvs => kvs.length ≤ 1000 ∧ (∀ e ∈ kvs, ShE e) ∧ Q (.str (reprD kvs)) M := rfl
end
/-! ### promises where no repr is under way -/
structure FnG (P : Program) (w : World) (K : PySem.W.Frag) (mg : Str → Option Value) (base : Heap) (k : Nat) (f : Addr) (fd : FuncData) (ps : List Str) (sp : SpD) : Prop where
  len : ∀ vs H Q E, lsp K sp vs H Q E → vs.length = ps.length
  run : ∀ (A : Around) (outer : List PySem.Env) (s : Shared) (H : Hp) (args : Args) (us : List Value) (vs : List V) (Q : VK) (E : XK), Room k A → A.guards = some [] → Env0 P w K mg base A outer s H → BindsTo s fd args (ps.zip us) → Vals vs us → lsp K sp vs H Q E →
    codeAny (model P w) A (.call (.ref f) args) (CR (L2.CX P w) outer P w H s Q E) s
theorem FnG.of {P : Program} {w : World} {K : PySem.W.Frag} {mg : Str → Option Value} {base : Heap} {k : Nat} {f : Addr} {fd : FuncData} {ps : List Str} {sp : SpD} (F : FnD P w K mg base k f fd ps sp) : FnG P w K mg base k f fd ps sp :=
  ⟨F.len, fun A outer s H args us vs Q E hr _ => F.run A outer s H args us vs Q E hr⟩
end QL
namespace QL
open PySem PySem.Spec PyProof.Rows L2
/-! ### unlocking -/
section
variable {X : Cx} {W : WX} {a b c e o i : Expr} {es : List Expr} {wa wb wo we wk wv : DE} {pos apos pos' p : Pos} {tg : Expr}
/-! ### what never runs; a try whose body never raises -/
def wNever : DS := fun _ _ _ => False
theorem qs_never {st : Stmt} : QS X W st wNever := ⟨fun _ _ _ _ _ _ ⟨_, _, _, _, _, w, _⟩ => w.elim⟩
def wThru (w : DS) : DS := fun D δ M => w { D with xx := fun _ _ _ => False } δ M
theorem qs_thru {body : List Stmt} {h0 : ExceptHandler} {hs : List ExceptHandler} {w : DS} (hb : QSs X.nox (fun _ _ _ _ => False) body w) : QS X W (.Try body (h0 :: hs) [] [] pos) (wThru w) :=
  ps_weak (ps_try_thru0 hb) fun D σ H ⟨H0, δ, M, D', p, w, le⟩ => ⟨H0, δ, M, { D' with xx := fun _ _ _ => False }, ⟨p.tk, fun _ _ _ _ _ _ _ _ _ _ _ z => z.elim, p.rs, p.rm⟩, w, ⟨le.nx, le.rt, le.bk, le.ct⟩⟩
/-! ### enumerate(list), reversed(list or tuple) -/
def enumD (xs : List D) : List D := xs.zipIdx.map fun p => D.tup [.int (p.2 : Nat), p.1]
theorem enumD_len (xs : List D) : (enumD xs).length = xs.length := by unfold enumD; simp
theorem enumD_get {xs : List D} {i : Nat} {d : D} (h : xs[i]? = some d) : (enumD xs)[i]? = some (.tup [.int (i : Nat), d]) := by
  unfold enumD
  rw [List.getElem?_map, List.getElem?_zipIdx, h]
  simp
def wEnum (we : DE) : DI := fun δ M R E => we δ M (fun d M1 => ∃ a, d = .ob a ∧ onL M1 a fun xs => R ⟨enumD xs, fun M => M a = some (.lst xs)⟩ M1) E
theorem qi_enum {elts : List Expr} {kk : Nat} {tpos : Pos} (hg : Gl X "enumerate") (hm : X.mg "enumerate" = none) (he : QE X W e we) (hs : starEach [e] X.env = [(false, eval e X.env)] := by rfl) (hs2 : starEach [e] X.env = (false, eval e X.env) :: starEach [] X.env := by rfl) :
    QI X W (.Tuple elts kk tpos) (.Call (.Name "enumerate" p) [e] [] pos) (wEnum we) :=
  pi_weak (pi_enum hg hm (qa_cons he qa_nil hs2) hs) fun σ H R ⟨H0, δ, M, R', XX, p, w, k⟩ => ⟨H0, δ, M, fun ds M1 => ∃ a, ds = [.ob a] ∧ onL M1 a fun xs => R' ⟨enumD xs, fun M => M a = some (.lst xs)⟩ M1, XX, p, by
    show we δ M (fun d M1 => ∃ a, [d] = [.ob a] ∧ onL M1 a fun xs => R' ⟨enumD xs, fun M => M a = some (.lst xs)⟩ M1) (fun x M => XX x δ M)
    have e1 : (fun (d : D) M1 => ∃ a, [d] = [D.ob a] ∧ onL M1 a fun xs => R' ⟨enumD xs, fun M => M a = some (.lst xs)⟩ M1) = fun d M1 => ∃ a, d = .ob a ∧ onL M1 a fun xs => R' ⟨enumD xs, fun M => M a = some (.lst xs)⟩ M1 := by
      funext d M1; simp
    rw [e1]; exact w, fun vs H1 ds M1 k1 r1 m1 w1 => by
    obtain ⟨a, rfl, xs, ea, w1⟩ := w1
    obtain ⟨x, ys, rfl, rx, rest⟩ := r1
    cases rest
    cases rx
    obtain ⟨us, h, t⟩ := m1 _ _ ea
    refine ⟨a, us, rfl, SqL.of h, k _ H1 _ M1 k1 m1 ⟨fun i H' M' k2 m2 g hi => ?_, fun H' M' k2 m2 g => ?_, fun i x H' H'' M' k2 m2 g hi y => ?_⟩ w1⟩
    · have hi : i < xs.length := by rw [← enumD_len]; exact hi
      obtain ⟨us', h', t'⟩ := m2 _ _ g
      exact ⟨us', us'[i]'(by rw [← t'.length]; exact hi), SqL.of h', by simp⟩
    · obtain ⟨us', h', t'⟩ := m2 _ _ g
      exact ⟨us', SqL.of h', by show us'.length ≤ (enumD xs).length; rw [enumD_len, ← t'.length]; exact Nat.le_refl _⟩
    · obtain ⟨us', h', t'⟩ := m2 _ _ g
      obtain ⟨T, x0, rfl, hT, rfl, y⟩ := y
      have e := y us' (SqL.of h')
      obtain ⟨d, hd, rd⟩ := t'.getV e
      exact ⟨_, enumD_get hd, TK.new hT, RD.tupI (SqT.of upd_same) ⟨_, _, rfl, RD.intI, _, _, rfl, RD.tk (TK.new hT) rd, rfl⟩, m2.skip hT⟩⟩
def wRev (we : DE) : DI := fun δ M R E => we δ M (fun d M1 => match d with
  | .ob a => onL M1 a fun xs => R ⟨xs.reverse, fun M => M a = some (.lst xs)⟩ M1
  | .tup xs => R ⟨xs.reverse, fun _ => True⟩ M1
  | _ => False) E
/-! ### tuple(x), list(x), tuple(reversed(x)) -/
def tupleOf : D1L := fun ds M Q => match ds with
  | [.ob a] => onL M a fun xs => Q (.tup xs) M
  | [.tup xs] => Q (.tup xs) M
  | _ => False
def rTupOf (K : PySem.W.Frag) : List V → Hp → VK → Prop := fun xs H Q => ∃ p ys, xs = [.ref p] ∧ ((SqL K H p ys ∧ ∀ l, H l = none → Q (.ref l) (upd H l (.tup ys))) ∨ (SqT K H p ys ∧ Q (.ref p) H))
theorem call_tupleOf : CallR X (.type "tuple") (rTupOf X.K) := call_tuple_of
theorem ol_tuple {K : PySem.W.Frag} : OL K (rTupOf K) tupleOf := by
  intro xs ds H M Q Q' r m w k
  unfold tupleOf at w
  split at w
  · obtain ⟨ys, em, w⟩ := w
    obtain ⟨x, zs, rfl, rx, rest⟩ := r
    cases rest
    cases rx
    obtain ⟨us, h, t⟩ := m _ _ em
    exact ⟨_, us, rfl, .inl ⟨SqL.of h, fun l hl => k _ _ _ M (TK.new hl) (RD.tupI (SqT.of upd_same) (RDs.tk (TK.new hl) t)) (m.skip hl) w⟩⟩
  · obtain ⟨x, zs, rfl, rx, rest⟩ := r
    cases rest
    obtain ⟨a, us, rfl, s, t⟩ := rx
    exact ⟨a, us, rfl, .inr ⟨s, k _ H _ M (TK.refl H) (RD.tupI s t) m w⟩⟩
  · exact w.elim
theorem e_tup_o {a : Addr} {M : Mp} {Q : KD} : tupleOf [.ob a] M Q = onL M a fun xs => Q (.tup xs) M := rfl
theorem e_tup_t {xs : List D} {M : Mp} {Q : KD} : tupleOf [.tup xs] M Q = Q (.tup xs) M := rfl
def listOf : D1L := fun ds M Q => match ds with
  | [.ob a] => onL M a fun xs => ∀ p, M p = none → Q (.ob p) (upm M p (.lst xs))
  | [.tup xs] => ∀ p, M p = none → Q (.ob p) (upm M p (.lst xs))
  | _ => False
theorem e_list_o {a : Addr} {M : Mp} {Q : KD} : listOf [.ob a] M Q = onL M a fun xs => ∀ p, M p = none → Q (.ob p) (upm M p (.lst xs)) := rfl
theorem e_list_t {xs : List D} {M : Mp} {Q : KD} : listOf [.tup xs] M Q = ∀ p, M p = none → Q (.ob p) (upm M p (.lst xs)) := rfl
def wTupRev (we : DE) : DE := fun δ M Q E => we δ M (fun d M1 => ∃ a, d = .ob a ∧ onL M1 a fun xs => Q (.tup xs.reverse) M1) E
/-! ### xs.extend(tuple) -/
def extendT : DMt := fun d ds M Q => match d, ds with
  | .ob a, [.tup ys] => onL M a fun xs => xs.length + ys.length ≤ sizeLine ∧ Q .non (upm M a (.lst (xs ++ ys)))
  | _, _ => False
/-! ### a dict locked while an expression or a statement runs; its keys -/
def wLockE (w : DE) : DE := fun δ M Q _ => ∃ a kvs, M a = some (.dic kvs) ∧ w δ (upm M a (.fdk kvs)) (fun d M' => M' a = some (.fdk kvs) ∧ Q d (upm M' a (.dic kvs))) (fun _ _ => False)
def wKeys (we : DE) : DI := fun δ M R E => we δ M (fun d M1 => ∃ a kvs, d = .ob a ∧ M1 a = some (.fdk kvs) ∧ R ⟨kvs.map (·.1), fun _ => True⟩ M1) E
/-! ### {k: v for ..} -/
def DcOk (it : DIt) (vs : List Nat) (g : DG) (tt : DT) (tk tv : DE) (δ : Env) (M : Mp) (p : Addr) (Q : Mp → Prop) : Prop := ∃ I : Nat → Mp → Prop, I 0 (upm M p (.dic [])) ∧ (∀ i M, i ≤ it.xs.length → I i M → it.G M) ∧
  (∀ i d M, it.xs[i]? = some d → I i M → g d (wipeD δ vs) M fun δ2 M2 => tt δ2 M2 (fun b M3 => if b = true then tk δ2 M3 (fun y M4 => tv δ2 M4 (fun z M5 => ∃ t kvs, y = .str t ∧ M5 p = some (.dic kvs) ∧ kvs.length < sizeLine ∧ I (i + 1) (upm M5 p (.dic (putK' kvs t z)))) (fun _ _ => False)) (fun _ _ => False) else I (i + 1) M3) (fun _ _ => False)) ∧
  ∀ M, I it.xs.length M → Q M
def wDc (vs : List Nat) (wi : DI) (g : DG) (tt : DT) (tk tv : DE) : DE := fun δ M Q E => wi δ M (fun it M1 => ∀ p, M1 p = none → DcOk it vs g tt tk tv δ M1 p (Q (.ob p))) E
end
end QL
namespace QL
open PySem PySem.Spec PyProof.Rows L2
/-! ### x.split(sep), told by its parts -/
theorem mem_join {sep : Tx} {c : Nat} : ∀ {ps : List Tx} {p : Tx}, p ∈ ps → c ∈ p → c ∈ joinT sep ps
  | [x], p, h, k => by
    rw [List.mem_singleton.mp h] at k
    exact k
  | x :: y :: r, p, h, k => by
    show c ∈ x ++ sep ++ joinT sep (y :: r)
    rcases List.mem_cons.mp h with rfl | h
    · exact List.mem_append_left _ (List.mem_append_left _ k)
    · exact List.mem_append_right _ (mem_join h k)
def splitD : DMt := fun d ds M Q => match d, ds with
  | .str x, [.str [c]] => c < 256 ∧ x.length + 2 ≤ sizeLine ∧ ∃ ps : List Tx, ps ≠ [] ∧ (∀ p ∈ ps, c ∉ p) ∧ x = joinT [c] ps ∧ ∀ p, M p = none → Q (.ob p) (upm M p (.lst (ps.map D.str)))
  | _, _ => False
def rSplit : V → List V → Hp → VK → Prop := fun x xs H Q => ∃ a b, x = .str a ∧ xs = [.str b] ∧ (b.length == 0) = false ∧ a.length + 2 ≤ sizeLine ∧ rNewStrs (Txt.split a b) H Q
theorem mt_splitS {X : Cx} : MtR X "str.split" rSplit := mt_split
theorem rds_strs {K : PySem.W.Frag} {H : Hp} : ∀ {ps : List Tx}, (∀ p ∈ ps, okc p) → RDs K H (ps.map D.str) ((ps.map fun p => (⟨p.toArray⟩ : Str)).map V.str)
  | [], _ => rfl
  | p :: r, h => ⟨_, _, rfl, ⟨rfl, h p (by simp)⟩, rds_strs fun q hq => h q (List.mem_cons_of_mem _ hq)⟩
theorem om_split {K : PySem.W.Frag} : OM K rSplit splitD := by
  intro x xs d ds H M Q Q' r1 r2 m w k
  unfold splitD at w
  split at w
  · rename_i x c
    obtain ⟨rfl, ok⟩ := r1
    obtain ⟨v, rfl, rv⟩ := rds1 r2
    obtain ⟨rfl, _⟩ := rv
    obtain ⟨hc, hl, ps, hne, hp, ex, w⟩ := w
    have e : Txt.split ⟨x.toArray⟩ ⟨[c].toArray⟩ = ps.map fun p => (⟨p.toArray⟩ : Str) := by
      have ej := join_of [c] ps
      rw [← ex] at ej
      rw [← ej]
      refine TL.split_join (s := c) (S := []) rfl ?_ (fun z => hne (List.map_eq_nil_iff.mp z)) fun p hp' => ?_
      · show ([c].toArray).all (· < 256) = true
        simp [hc]
      · obtain ⟨q, hq, rfl⟩ := List.mem_map.mp hp'
        exact hp q hq
    refine ⟨⟨x.toArray⟩, ⟨[c].toArray⟩, rfl, rfl, rfl, by rw [str_len]; exact hl, fun l hn => ?_⟩
    rw [e]
    have okp : ∀ p ∈ ps, okc p := fun p hp' z hz => ok z (by rw [ex]; exact mem_join hp' hz)
    exact k _ _ _ _ (TK.new hn) RD.obI (m.new hn (RO.lstI upd_same (rds_strs okp))) (w l (m.none hn))
  · exact w.elim
theorem e_split {x : Tx} {c : Nat} {M : Mp} {Q : KD} : splitD (.str x) [.str [c]] M Q = (c < 256 ∧ x.length + 2 ≤ sizeLine ∧ ∃ ps : List Tx, ps ≠ [] ∧ (∀ p ∈ ps, c ∉ p) ∧ x = joinT [c] ps ∧ ∀ p, M p = none → Q (.ob p) (upm M p (.lst (ps.map D.str)))) := rfl
/-! ### strip, lstrip, startswith -/
def sp32 (c : Nat) : Bool := c == 32
def lsT (x : Tx) : Tx := x.dropWhile sp32
def ssT (x : Tx) : Tx := ((x.dropWhile sp32).reverse.dropWhile sp32).reverse
theorem drop_tw (q : Nat → Bool) : ∀ x : Tx, x.drop (x.takeWhile q).length = x.dropWhile q
  | [] => rfl
  | c :: r => by
    by_cases h : q c = true
    · rw [List.takeWhile_cons_of_pos h, List.dropWhile_cons_of_pos h]; exact drop_tw q r
    · rw [List.takeWhile_cons_of_neg h, List.dropWhile_cons_of_neg h]; rfl
theorem goes32 : ((⟨[32].toArray⟩ : Str).cps.contains : Nat → Bool) = sp32 := by
  funext c
  show ([32].toArray).contains c = (c == 32)
  simp [Array.contains]
theorem sub_tl (x : Tx) (i j : Nat) : PySem.Builtin.Str.strSub ⟨x.toArray⟩ i j = ⟨((x.drop i).take (j - i)).toArray⟩ := by
  show Str.mk (x.toArray.extract i j) = _
  congr 1
  apply Array.toList_inj.mp
  simp [List.extract_eq_drop_take]
theorem strip_eq (x : Tx) : Txt.stripChars ⟨x.toArray⟩ ⟨[32].toArray⟩ = ⟨(ssT x).toArray⟩ := by
  have key : stripped sp32 true true ⟨x.toArray⟩ = ⟨(ssT x).toArray⟩ := by
    show PySem.Builtin.Str.strSub _ _ _ = _
    rw [sub_tl]
    have e1 : stripLo sp32 true ⟨x.toArray⟩ = (x.takeWhile sp32).length := rfl
    have e2 : stripHi sp32 true ⟨x.toArray⟩ (stripLo sp32 true ⟨x.toArray⟩) = x.length - ((x.dropWhile sp32).reverse.takeWhile sp32).length := by
      rw [e1]
      show (⟨x.toArray⟩ : Str).length - ((x.drop (x.takeWhile sp32).length).reverse.takeWhile sp32).length = _
      rw [drop_tw, str_len]
    rw [e2, e1, drop_tw]
    have hl : (x.dropWhile sp32).length = x.length - (x.takeWhile sp32).length := by rw [← drop_tw, List.length_drop]
    have tk : (x.dropWhile sp32).take (x.length - ((x.dropWhile sp32).reverse.takeWhile sp32).length - (x.takeWhile sp32).length) = ssT x := by
      unfold ssT
      generalize hy : x.dropWhile sp32 = y at *
      have : x.length - (y.reverse.takeWhile sp32).length - (x.takeWhile sp32).length = y.length - (y.reverse.takeWhile sp32).length := by omega
      rw [this, ← drop_tw sp32 y.reverse, List.reverse_drop, List.reverse_reverse, List.length_reverse]
    rw [tk]
  unfold Txt.stripChars Txt.stripBy
  rw [goes32]
  by_cases h : stripSame sp32 true true ⟨x.toArray⟩ = true
  · rw [if_pos h, ← key]
    unfold stripSame at h
    rw [Bool.and_eq_true, beq_iff_eq, beq_iff_eq] at h
    show _ = PySem.Builtin.Str.strSub _ _ _
    rw [h.2, h.1, sub_tl, List.drop_zero, str_len, Nat.sub_zero, List.take_length]
  · rw [if_neg h, key]
theorem okc_dw {x : Tx} (h : okc x) (q : Nat → Bool) : okc (x.dropWhile q) := fun c hc => h c (List.dropWhile_sublist q |>.mem hc)
def stripD : DMt := fun d ds M Q => match d, ds with
  | .str x, [.str [32]] => x.length ≤ sizeLine ∧ Q (.str (ssT x)) M
  | _, _ => False
theorem e_strip {x : Tx} {M : Mp} {Q : KD} : stripD (.str x) [.str [32]] M Q = (x.length ≤ sizeLine ∧ Q (.str (ssT x)) M) := rfl
def rStr : V → List V → Hp → VK → Prop := fun x xs H Q => ∃ a b, x = .str a ∧ xs = [.str b] ∧ a.length ≤ sizeLine ∧ Q (.str (Txt.stripChars a b)) H
theorem om_strip {K : PySem.W.Frag} : OM K rStr stripD := by
  intro x xs d ds H M Q Q' r1 r2 m w k
  unfold stripD at w
  split at w
  · obtain ⟨rfl, ok⟩ := r1
    obtain ⟨v, rfl, rv⟩ := rds1 r2
    obtain ⟨rfl, _⟩ := rv
    refine ⟨_, _, rfl, rfl, by rw [str_len]; exact w.1, ?_⟩
    rw [strip_eq]
    refine k _ H (.str (ssT _)) M (TK.refl H) ⟨rfl, fun c hc => ?_⟩ m w.2
    unfold ssT at hc
    exact okc_dw ok _ c (List.mem_reverse.mp (List.dropWhile_sublist sp32 |>.mem (List.mem_reverse.mp hc)))
  · exact w.elim
section
variable {X : Cx} {W : WX} {o e : Expr} {wo wa : DE} {pos apos : Pos}
theorem qe_strm {name : Str} {id : String} {r : V → List V → Hp → VK → Prop} {rd : DMt} (slot : Slot "str" name id) (hty : typeOf (.builtin id) = pure (.type "method_descriptor")) (hm : MtR X id r) (om : OM X.K r rd) (ho : QE X W o wo) (ha : QE X W e wa)
    (he : starEach [e] X.env = (false, eval e X.env) :: starEach [] X.env := by rfl) (hbase : attributeBase o name X.env (eval o X.env) = eval o X.env := by rfl)
    (hfew : ((backTo pos (starEach [e] X.env)).all (fun x => !x.1) && (backToKw pos (keywordEach [] X.env)).all (fun x => x.1.isSome)
      && decide ([e].length + ([] : List Keyword).length + (if ([] : List Keyword).isEmpty then 0 else 1) < 30)) = true := by rfl)
    (hline : (apos.endLine == pos.line) = true := by rfl) : QE X W (.Call (.Attribute o name apos) [e] [] pos) (wBM "str" rd wo (wCons wa wNil)) :=
  qe_bm PySem.F.plainAttrs_str slot hty hm om ho (qa_cons ha qa_nil he) hbase hfew hline he
end
end QL
namespace QL
open PySem PySem.Spec PyProof.Rows L2
/-! ### C.m(..), m a static method of the class at C -/
section
variable {X : Cx} {W : WX} {o e : Expr} {es : List Expr} {wo wa : DE} {ws : DA} {pos apos : Pos} {k : Nat} {f C : Addr} {fd : FuncData} {ps : List Str} {sp : SpD} {x m : Str}
def wSMeth (C : Addr) (sp : SpD) (wo : DE) (ws : DA) : DE := fun δ M Q E => wo δ M (fun d M1 => d = .ob C ∧ ws δ M1 (fun ds M2 => sp ds M2 Q E) E) E
/-! ### a def of a class, called by the machine itself -/
end
end QL
namespace PySem.AutoSeq1
open Sem (wp)
open Builtin
end PySem.AutoSeq1
namespace QL
open PySem PySem.Spec PyProof.Rows L2
section
variable {X : Cx} {W : WX} {o e : Expr} {wo wa : DE} {pos apos : Pos} {tg : Expr}
/-! ### xs.extend(a tuple), xs.pop() -/
theorem e_extT {a : Addr} {ys : List D} {M : Mp} {Q : KD} : extendT (.ob a) [.tup ys] M Q = onL M a fun xs => xs.length + ys.length ≤ sizeLine ∧ Q .non (upm M a (.lst (xs ++ ys))) := rfl
def popD : DMt := fun d ds M Q => match d, ds with
  | .ob a, [] => onL M a fun xs => ∃ x, xs[xs.length - 1]? = some x ∧ Q x (upm M a (.lst xs.dropLast))
  | _, _ => False
theorem rds_dropLast {K : PySem.W.Frag} {H : Hp} {ds : List D} {vs : List V} (h : RDs K H ds vs) : RDs K H ds.dropLast vs.dropLast := by
  rw [List.dropLast_eq_take, List.dropLast_eq_take, h.length]
  exact RDs.take _ h
theorem om_pop {K : PySem.W.Frag} : OM K rPop popD := by
  intro x xs d ds H M Q Q' r1 r2 m w k
  unfold popD at w
  split at w
  · cases r1
    cases r2
    obtain ⟨ys, e1, y, hy, w⟩ := w
    obtain ⟨us, h, t⟩ := m _ _ e1
    obtain ⟨v, hv, rv⟩ := t.get hy
    have kp := TK.put (o := .lst us.dropLast) h notPerm_lst
    refine ⟨_, us, v, rfl, rfl, h, by rw [← t.length]; exact hv, ?_⟩
    exact k _ _ _ _ kp (RD.tk kp rv) (m.put h notPerm_lst (RO.lstI upd_same (RDs.tk kp (rds_dropLast t)))) w
  · exact w.elim
theorem e_pop {a : Addr} {M : Mp} {Q : KD} : popD (.ob a) [] M Q = onL M a fun xs => ∃ x, xs[xs.length - 1]? = some x ∧ Q x (upm M a (.lst xs.dropLast)) := rfl
theorem qe_pop (ho : QE X W o wo) (hbase : attributeBase o "pop" X.env (eval o X.env) = eval o X.env := by rfl) (hline : (apos.endLine == pos.line) = true := by rfl) : QE X W (.Call (.Attribute o "pop" apos) [] [] pos) (wBM0 "list" popD wo) :=
  qe_bm0 PySem.F.plainAttrs_list PySem.F.slot_list_pop PySem.F.type_list_pop mt_pop om_pop ho hbase hline
/-! ### name = {k: v for ..} on one line -/
end
end QL
namespace QL
open PySem PySem.Spec PyProof.Rows L2
/-! ### for over a list or a tuple -/
end QL
namespace QL
open PySem PySem.Spec PyProof.Rows L2
/-! ### sorted(list of texts) -/
/-! ### == and != of lists of data -/
end QL
namespace QL
open PySem PySem.Spec PyProof.Rows L2 PySem.NumText
/-! ### signs never cross a space -/
theorem spn_sp {cs : Tx} (h : ¬ 32 ∈ cs) (a b : Tx) : spn cs (a ++ 32 :: b) = spn cs a := by
  induction a with
  | nil => exact spn_out h
  | cons c a ih =>
    by_cases hc : c ∈ cs
    · rw [List.cons_append, spn_in hc, spn_in hc, ih]
    · rw [List.cons_append, spn_out hc, spn_out hc]
theorem take_sp {a b : Tx} {n : Nat} (h : n ≤ a.length) : (a ++ 32 :: b).take n = a.take n := List.take_append_of_le_length h
theorem drop_sp {a b : Tx} {n : Nat} (h : n ≤ a.length) : (a ++ 32 :: b).drop n = a.drop n ++ 32 :: b := List.drop_append_of_le_length h
theorem wordLen_sp (a b : Tx) : wordLen (a ++ 32 :: b) = wordLen a := by
  have hl : ¬ (32 : Nat) ∈ LET := sp_other.1
  have hd : ¬ (32 : Nat) ∈ DIG := sp_other.2.1
  have le := spn_le LET a
  unfold wordLen
  rw [spn_sp hl]
  generalize spn LET a = s at *
  rcases Nat.lt_or_eq_of_le le with h | h
  · rw [List.getElem?_append_left h, drop_sp (show s + 1 ≤ a.length by omega), spn_sp hd, take_sp (spn_le _ _)]
  · have e1 : (a ++ 32 :: b)[s]? = some 32 := by rw [h]; simp
    have e2 : a[s]? = none := by rw [h]; simp
    rw [e1, e2]
    rfl
theorem lex1_sp (c : Nat) (r b : Tx) : lex1 c (r ++ 32 :: b) = lex1 c r := by
  have hd : ¬ (32 : Nat) ∈ DIG := sp_other.2.1
  unfold lex1
  by_cases h1 : c ∈ LET
  · rw [if_pos h1, if_pos h1, ← List.cons_append, wordLen_sp]
    cases e : wordLen (c :: r) with
    | none => rfl
    | some k =>
      have := (wordLen_pos h1 e).2
      simp only [Option.map_some]
      rw [take_sp this]
  · rw [if_neg h1, if_neg h1]
    by_cases h2 : c ∈ DIG
    · rw [if_pos h2, if_pos h2, ← List.cons_append, spn_sp hd, take_sp (spn_le _ _)]
    · rw [if_neg h2, if_neg h2]
theorem lex_sp : ∀ (n : Nat) (a b : Tx), a.length ≤ n → lex (a ++ 32 :: b) = (lex a).bind fun t => (lex b).map (t ++ ·)
  | _, [], b, _ => by
    rw [List.nil_append, lex_space, lex_nil]
    cases lex b <;> simp
  | n + 1, c :: r, b, h => by
    rw [List.cons_append, lex_cons, lex1_sp, lex_cons]
    cases e : lex1 c r with
    | none => rfl
    | some p =>
      obtain ⟨t, k⟩ := p
      have hp := lex1_pos e
      simp only
      rw [← List.cons_append, drop_sp hp.2.1, lex_sp n _ _ (by rw [List.length_drop]; simp only [List.length_cons] at h ⊢; omega)]
      cases lex ((c :: r).drop k) with
      | none => rfl
      | some u => cases lex b <;> simp
theorem lex_split (a b : Tx) : lex (a ++ 32 :: b) = (lex a).bind fun t => (lex b).map (t ++ ·) := lex_sp _ a b (Nat.le_refl _)
/-- a text that is read -/
def Reads (l : Tx) : Prop := ∃ t, lex l = some t
theorem Reads.sp {a b : Tx} (ha : Reads a) (hb : Reads b) : Reads (a ++ 32 :: b) := by
  obtain ⟨t, ha⟩ := ha
  obtain ⟨u, hb⟩ := hb
  exact ⟨_, by rw [lex_split, ha, hb]; rfl⟩
theorem strsD_map : ∀ (ws : List Tx), strsD (ws.map D.str) = some ws
  | [] => rfl
  | w :: r => by simp [strsD, strsD_map r]
end QL
namespace QL
open PySem PySem.Spec PyProof.Rows L2 PySem.NumText
/-! ### signs -/
inductive Tk where
  | w (w : Tx) | n (n : Nat) | y (c : Nat)
  deriving DecidableEq
def Tk.D : Tk → QL.D
  | .w x => dW x
  | .n x => dN x
  | .y x => dY x
def TkOk : Tk → Prop
  | .w x => x.length ≤ 1000000
  | .n x => x ≤ 1000000
  | .y _ => True
theorem numB_nat {ds : Tx} {n : Int} (h : numB ds 0 1000000 = some n) : ∃ m : Nat, n = m ∧ m ≤ 1000000 := by
  unfold numB at h
  split at h
  · cases h
  · split at h
    · rename_i z
      cases h
      exact ⟨_, rfl, by omega⟩
    · cases h
theorem lex1_tk {c : Nat} {r : Tx} {t : List QL.D} {k : Nat} (hl : (c :: r).length ≤ 1000000) (h : lex1 c r = some (t, k)) : ∃ ts : List Tk, t = ts.map Tk.D ∧ ∀ x ∈ ts, TkOk x := by
  unfold lex1 at h
  split at h
  · cases e : wordLen (c :: r) with
    | none => rw [e] at h; cases h
    | some j =>
      rw [e] at h; cases h
      exact ⟨[.w ((c :: r).take k)], rfl, fun x hx => by rw [List.mem_singleton.mp hx]; exact Nat.le_trans (by simp [List.length_take]; omega) hl⟩
  · split at h
    · cases e : numB ((c :: r).take (spn DIG (c :: r))) 0 1000000 with
      | none => rw [e] at h; cases h
      | some j =>
        rw [e] at h; cases h
        obtain ⟨m, rfl, hm⟩ := numB_nat e
        exact ⟨[.n m], rfl, fun x hx => by rw [List.mem_singleton.mp hx]; exact hm⟩
    · split at h
      · cases h
        exact ⟨[.y c], rfl, fun x hx => by rw [List.mem_singleton.mp hx]; trivial⟩
      · split at h
        · cases h; exact ⟨[], rfl, by simp⟩
        · cases h
theorem lex_tk : ∀ (n : Nat) (l : Tx) (ts : List QL.D), l.length ≤ n → l.length ≤ 1000000 → lex l = some ts → ∃ tk : List Tk, ts = tk.map Tk.D ∧ (∀ x ∈ tk, TkOk x) ∧ tk.length ≤ l.length
  | _, [], ts, _, _, h => by
    rw [lex_nil] at h; cases h
    exact ⟨[], rfl, by simp, Nat.le_refl _⟩
  | n + 1, c :: r, ts, hn, hl, h => by
    rw [lex_cons] at h
    cases e : lex1 c r with
    | none => rw [e] at h; cases h
    | some p =>
      obtain ⟨t, k⟩ := p
      rw [e] at h
      have hp := lex1_pos e
      have hd : ((c :: r).drop k).length ≤ n := by rw [List.length_drop]; simp only [List.length_cons] at hn ⊢; omega
      have h : (lex ((c :: r).drop k)).map (t ++ ·) = some ts := h
      cases e2 : lex ((c :: r).drop k) with
      | none => rw [e2] at h; cases h
      | some u =>
        rw [e2] at h; cases h
        obtain ⟨a, rfl, ha⟩ := lex1_tk hl e
        obtain ⟨b, rfl, hb, hbl⟩ := lex_tk n _ u hd (by rw [List.length_drop]; simp only [List.length_cons] at hl ⊢; omega) e2
        refine ⟨a ++ b, by simp, fun x hx => (List.mem_append.mp hx).elim (ha x) (hb x), ?_⟩
        have := hp.2.2
        rw [List.length_map] at this
        rw [List.length_drop] at hbl
        rw [List.length_append]
        omega
theorem lex_toks {l : Tx} {ts : List QL.D} (hl : l.length ≤ 1000000) (h : lex l = some ts) : ∃ tk : List Tk, ts = tk.map Tk.D ∧ (∀ x ∈ tk, TkOk x) ∧ tk.length ≤ l.length := lex_tk _ l ts (Nat.le_refl _) hl h
theorem Tk.D_inj : ∀ {a b : Tk}, a.D = b.D → a = b := by
  intro a b h
  have t1 : ∀ {x y : Tx} {p q : QL.D}, QL.D.tup [.str x, p] = .tup [.str y, q] → x = y ∧ p = q := fun e => by
    injection e with e
    injection e with e1 e2
    injection e1 with e1
    injection e2 with e2 _
    exact ⟨e1, e2⟩
  obtain ⟨t2, t3, t4⟩ := tags
  cases a <;> cases b
  · have := (t1 h).2; injection this with this; rw [this]
  · exact absurd (t1 h).1 t2
  · exact absurd (t1 h).1 t3
  · exact absurd (t1 h).1.symm t2
  · have := (t1 h).2; injection this with this; rw [Int.ofNat_inj.mp this]
  · exact absurd (t1 h).1 t4
  · exact absurd (t1 h).1.symm t3
  · exact absurd (t1 h).1.symm t4
  · have := (t1 h).2; injection this with this; injection this with this _; rw [this]
/-! ### expressions -/
inductive Ex where
  | num (n : Nat) | var (v : Tx) | bin (s : Nat) (l r : Ex)
  deriving DecidableEq
def Ex.D : Ex → QL.D
  | .num n => .tup [.str (tx "number"), .int n]
  | .var v => .tup [.str (tx "variable"), .str v]
  | .bin s l r => .tup [.str [s], l.D, r.D]
def Ex.ht : Ex → Nat
  | .num _ => 1
  | .var _ => 1
  | .bin _ l r => 1 + max l.ht r.ht
def KWS : List Tx := [tx "entry", tx "goto", tx "else", tx "if", tx "print", tx "block", tx "loop", tx "break", tx "continue", tx "exit"]
def isName (v : Tx) : Bool := decide (¬ 46 ∈ v) && decide (¬ v ∈ KWS)
abbrev PR := List Tk → Option (Ex × Nat × List Tk)
def primP (cmp : PR) : PR
  | .y c :: r => if c = 40 then (match cmp r with
      | some (e, h, .y d :: r') => if d = 41 then some (e, h, r') else none
      | _ => none) else none
  | .n n :: r => some (.num n, 1, r)
  | .w v :: r => if isName v = true then some (.var v, 1, r) else none
  | [] => none
def loopP (ops : List Nat) (p : PR) : Nat → Ex → Nat → PR
  | 0, e, h, ts => some (e, h, ts)
  | f + 1, e, h, ts => match ts with
    | .y c :: r => if c ∈ ops then (match p r with
        | none => none
        | some (e2, h2, r2) => if 20 < 1 + max h h2 then none else loopP ops p f (.bin c e e2) (1 + max h h2) r2) else some (e, h, ts)
    | _ => some (e, h, ts)
def loopL (ops : List Nat) (p : PR) (e : Ex) (h : Nat) (ts : List Tk) : Option (Ex × Nat × List Tk) := loopP ops p ts.length e h ts
def prodP (p : PR) : PR := fun ts => match p ts with
  | none => none
  | some (e, h, r) => loopL [42] p e h r
def sumP (p : PR) : PR := fun ts => match prodP p ts with
  | none => none
  | some (e, h, r) => loopL [43, 45] (prodP p) e h r
def cmpP (p : PR) : PR := fun ts => match sumP p ts with
  | none => none
  | some (e, h, r) => match r with
    | .y c :: r' => if c = 61 ∨ c = 60 then (match sumP p r' with
        | none => none
        | some (e2, h2, r2) => if 20 < 1 + max h h2 then none else some (.bin c e e2, 1 + max h h2, r2)) else some (e, h, r)
    | _ => some (e, h, r)
def primN : Nat → PR
  | 0 => primP (fun _ => none)
  | k + 1 => primP (cmpP (primN k))
/-- what is left is shorter, and stands at the end -/
def Shr (p : PR) : Prop := ∀ ts e h r, p ts = some (e, h, r) → r.length < ts.length ∧ r <:+ ts
theorem loopP_shr {ops : List Nat} {p : PR} (hp : Shr p) : ∀ (f : Nat) (e : Ex) (h : Nat) (ts : List Tk) (e' : Ex) (h' : Nat) (r : List Tk), loopP ops p f e h ts = some (e', h', r) → r.length ≤ ts.length ∧ r <:+ ts
  | 0, e, h, ts, e', h', r, q => by
    cases q; exact ⟨Nat.le_refl _, List.suffix_refl _⟩
  | f + 1, e, h, ts, e', h', r, q => by
    unfold loopP at q
    split at q
    · split at q
      · rename_i c r0 hc
        split at q
        · cases q
        · rename_i e2 h2 r2 hq
          split at q
          · cases q
          · have h1 := hp _ _ _ _ hq
            have h2 := loopP_shr hp f _ _ _ _ _ _ q
            exact ⟨by simp only [List.length_cons]; omega, h2.2.trans (h1.2.trans (List.suffix_cons _ _))⟩
      · cases q; exact ⟨Nat.le_refl _, List.suffix_refl _⟩
    · cases q; exact ⟨Nat.le_refl _, List.suffix_refl _⟩
theorem loopP_fuel {ops : List Nat} {p : PR} (hp : Shr p) : ∀ (f g : Nat) (e : Ex) (h : Nat) (ts : List Tk), ts.length ≤ f → ts.length ≤ g → loopP ops p f e h ts = loopP ops p g e h ts
  | 0, g, e, h, ts, hf, hg => by
    have : ts = [] := List.eq_nil_of_length_eq_zero (by omega)
    subst this
    cases g <;> rfl
  | f + 1, 0, e, h, ts, hf, hg => by
    have : ts = [] := List.eq_nil_of_length_eq_zero (by omega)
    subst this
    rfl
  | f + 1, g + 1, e, h, ts, hf, hg => by
    unfold loopP
    split
    · rename_i c r
      split
      · cases q : p r with
        | none => rfl
        | some x =>
          obtain ⟨e2, h2, r2⟩ := x
          simp only
          have := (hp _ _ _ _ q).1
          simp only [List.length_cons] at hf hg
          rw [loopP_fuel hp f g _ _ r2 (by omega) (by omega)]
      · rfl
    · rfl
theorem loopL_op {ops : List Nat} {p : PR} (hp : Shr p) {e : Ex} {h c : Nat} {r : List Tk} (hc : c ∈ ops) : loopL ops p e h (.y c :: r) = match p r with
    | none => none
    | some (e2, h2, r2) => if 20 < 1 + max h h2 then none else loopL ops p (.bin c e e2) (1 + max h h2) r2 := by
  unfold loopL
  rw [List.length_cons]
  show (if c ∈ ops then (match p r with
        | none => none
        | some (e2, h2, r2) => if 20 < 1 + max h h2 then none else loopP ops p r.length (.bin c e e2) (1 + max h h2) r2) else some (e, h, .y c :: r)) = _
  rw [if_pos hc]
  cases q : p r with
  | none => rfl
  | some x =>
    obtain ⟨e2, h2, r2⟩ := x
    have := (hp _ _ _ _ q).1
    simp only
    rw [loopP_fuel hp r.length r2.length _ _ r2 (by omega) (Nat.le_refl _)]
theorem loopL_some {ops : List Nat} {p : PR} (hp : Shr p) {e e2 : Ex} {h h2 c : Nat} {r r2 : List Tk} (hc : c ∈ ops) (q : p r = some (e2, h2, r2)) :
    loopL ops p e h (.y c :: r) = if 20 < 1 + max h h2 then none else loopL ops p (.bin c e e2) (1 + max h h2) r2 := by rw [loopL_op hp hc, q]
theorem loopL_none {ops : List Nat} {p : PR} (hp : Shr p) {e : Ex} {h c : Nat} {r : List Tk} (hc : c ∈ ops) (q : p r = none) : loopL ops p e h (.y c :: r) = none := by rw [loopL_op hp hc, q]
def NoOp (ops : List Nat) (ts : List Tk) : Prop := ∀ c, ts.head? = some (.y c) → ¬ c ∈ ops
theorem loopL_stop {ops : List Nat} {p : PR} {e : Ex} {h : Nat} {ts : List Tk} (hn : NoOp ops ts) : loopL ops p e h ts = some (e, h, ts) := by
  unfold loopL
  cases ts with
  | nil => rfl
  | cons t r =>
    rw [List.length_cons]
    unfold loopP
    cases t with
    | y c =>
      show (if c ∈ ops then _ else _) = _
      rw [if_neg (hn c rfl)]
    | w v => rfl
    | n m => rfl
theorem loopL_shr {ops : List Nat} {p : PR} (hp : Shr p) {e : Ex} {h : Nat} {ts : List Tk} {e' : Ex} {h' : Nat} {r : List Tk} (q : loopL ops p e h ts = some (e', h', r)) : r.length ≤ ts.length ∧ r <:+ ts := loopP_shr hp _ _ _ _ _ _ _ q
theorem prodP_shr {p : PR} (hp : Shr p) : Shr (prodP p) := fun ts e h r q => by
  unfold prodP at q
  split at q
  · cases q
  · rename_i e1 h1 r1 q1
    have a := hp _ _ _ _ q1
    have b := loopL_shr hp q
    exact ⟨by omega, b.2.trans a.2⟩
theorem sumP_shr {p : PR} (hp : Shr p) : Shr (sumP p) := fun ts e h r q => by
  unfold sumP at q
  split at q
  · cases q
  · rename_i e1 h1 r1 q1
    have a := prodP_shr hp _ _ _ _ q1
    have b := loopL_shr (prodP_shr hp) q
    exact ⟨by omega, b.2.trans a.2⟩
theorem cmpP_shr {p : PR} (hp : Shr p) : Shr (cmpP p) := fun ts e h r q => by
  unfold cmpP at q
  split at q
  · cases q
  · rename_i e1 h1 r1 q1
    have a := sumP_shr hp _ _ _ _ q1
    split at q
    · split at q
      · split at q
        · cases q
        · rename_i e2 h2 r2 q2
          have b := sumP_shr hp _ _ _ _ q2
          split at q
          · cases q
          · cases q
            simp only [List.length_cons] at a
            exact ⟨by omega, b.2.trans ((List.suffix_cons _ _).trans a.2)⟩
      · cases q; exact a
    · cases q; exact a
theorem primP_shr {p : PR} (hp : Shr p) : Shr (primP p) := fun ts e h r q => by
  unfold primP at q
  split at q
  · split at q
    · split at q
      · rename_i q1
        have a := hp _ _ _ _ q1
        split at q
        · cases q
          simp only [List.length_cons] at a ⊢
          exact ⟨by omega, (List.suffix_cons _ _).trans (a.2.trans (List.suffix_cons _ _))⟩
        · cases q
      · cases q
    · cases q
  · cases q; exact ⟨by simp, List.suffix_cons _ _⟩
  · split at q
    · cases q; exact ⟨by simp, List.suffix_cons _ _⟩
    · cases q
  · cases q
theorem primN_shr : ∀ k, Shr (primN k)
  | 0 => primP_shr fun _ _ _ _ q => by cases q
  | k + 1 => primP_shr (cmpP_shr (primN_shr k))
/-! ### texts that are expressions -/
inductive Der : Nat → Nat → List Tk → Ex → Prop where
  | num {k n : Nat} : Der 3 k [.n n] (.num n)
  | var {k : Nat} {v : Tx} (h : isName v = true) : Der 3 k [.w v] (.var v)
  | par {k : Nat} {ts : List Tk} {e : Ex} (h : Der 0 k ts e) : Der 3 (k + 1) (.y 40 :: (ts ++ [.y 41])) e
  | up {l k : Nat} {ts : List Tk} {e : Ex} (h : Der (l + 1) k ts e) : Der l k ts e
  | mul {k : Nat} {ts us : List Tk} {e f : Ex} (a : Der 2 k ts e) (b : Der 3 k us f) : Der 2 k (ts ++ .y 42 :: us) (.bin 42 e f)
  | add {k c : Nat} {ts us : List Tk} {e f : Ex} (hc : c = 43 ∨ c = 45) (a : Der 1 k ts e) (b : Der 2 k us f) : Der 1 k (ts ++ .y c :: us) (.bin c e f)
  | cmp {k c : Nat} {ts us : List Tk} {e f : Ex} (hc : c = 61 ∨ c = 60) (a : Der 1 k ts e) (b : Der 1 k us f) : Der 0 k (ts ++ .y c :: us) (.bin c e f)
/-- what the reader makes of it -/
def Got (l k : Nat) (ts : List Tk) (e : Ex) (rest : List Tk) : Prop := match l with
  | 0 => NoOp [42, 43, 45, 61, 60] rest → cmpP (primN k) (ts ++ rest) = some (e, e.ht, rest)
  | 1 => NoOp [42] rest → sumP (primN k) (ts ++ rest) = loopL [43, 45] (prodP (primN k)) e e.ht rest
  | 2 => prodP (primN k) (ts ++ rest) = loopL [42] (primN k) e e.ht rest
  | 3 => primN k (ts ++ rest) = some (e, e.ht, rest)
  | _ => True
theorem noOp_sub {a b : List Nat} {ts : List Tk} (h : NoOp b ts) (s : ∀ c ∈ a, c ∈ b) : NoOp a ts := fun c e m => h c e (s c m)
theorem noOp_y {ops : List Nat} {c : Nat} {ts : List Tk} (h : ¬ c ∈ ops) : NoOp ops (.y c :: ts) := fun d e => by
  have : c = d := by simpa using e
  rw [← this]; exact h
theorem noOp_nil {ops : List Nat} : NoOp ops [] := fun d e => by cases e
theorem der_4 {l k : Nat} {ts : List Tk} {e : Ex} (h : Der l k ts e) : l ≤ 3 := by
  induction h with
  | up _ ih => omega
  | _ => omega
theorem der_got {l j : Nat} {ts : List Tk} {e : Ex} (h : Der l j ts e) : ∀ (k : Nat) (rest : List Tk), j ≤ k → e.ht ≤ 20 → Got l k ts e rest := by
  induction h with
  | num => intro k rest hk he; cases k <;> rfl
  | var hv =>
    intro k rest hk he
    cases k <;> exact if_pos hv
  | par h ih =>
    intro k rest hk he
    cases k with
    | zero => omega
    | succ k =>
      have := ih k (.y 41 :: rest) (by omega) he (noOp_y (by decide))
      show primP (cmpP (primN k)) (.y 40 :: ((_ ++ [.y 41]) ++ rest)) = _
      rw [List.append_assoc, List.singleton_append]
      show (match cmpP (primN k) (_ ++ .y 41 :: rest) with
        | some (e, h, .y d :: r') => if d = 41 then some (e, h, r') else none
        | _ => none) = _
      rw [this]
      rfl
  | @up l k0 ts e h ih =>
    intro k rest hk he
    have l4 := der_4 h
    have hh := ih k rest hk he
    match l, l4, hh with
    | 0, _, hh =>
      intro hn
      have q := hh (noOp_sub hn (by decide))
      unfold cmpP
      rw [q, loopL_stop (noOp_sub hn (by decide))]
      simp only
      cases rest with
      | nil => rfl
      | cons t r =>
        cases t with
        | y c =>
          have := hn c rfl
          simp only
          rw [if_neg (fun z => this (by rcases z with rfl | rfl <;> decide))]
        | w v => rfl
        | n m => rfl
    | 1, _, hh =>
      intro hn
      have q : prodP (primN k) (ts ++ rest) = _ := hh
      unfold sumP
      rw [q, loopL_stop hn]
    | 2, _, hh =>
      have q : primN k (ts ++ rest) = _ := hh
      show prodP (primN k) (ts ++ rest) = _
      unfold prodP
      rw [q]
    | l + 3, l4, _ => omega
  | @mul k0 ts us e f a b iha ihb =>
    intro k rest hk he
    simp only [Ex.ht] at he
    have q1 : prodP (primN k) (ts ++ (.y 42 :: (us ++ rest))) = _ := iha k (.y 42 :: (us ++ rest)) hk (by omega)
    have q2 : primN k (us ++ rest) = _ := ihb k rest hk (by omega)
    show prodP (primN k) ((ts ++ .y 42 :: us) ++ rest) = _
    rw [List.append_assoc, List.cons_append, q1, loopL_op (primN_shr k) (by decide), q2]
    simp only
    rw [if_neg (by omega)]
    rfl
  | @add k0 c ts us e f hc a b iha ihb =>
    intro k rest hk he hn
    simp only [Ex.ht] at he
    have c42 : ¬ c ∈ [42] := by rcases hc with rfl | rfl <;> decide
    have cin : c ∈ [43, 45] := by rcases hc with rfl | rfl <;> decide
    have q1 := iha k (.y c :: (us ++ rest)) hk (by omega) (noOp_y c42)
    have q2 : prodP (primN k) (us ++ rest) = _ := ihb k rest hk (by omega)
    rw [loopL_stop hn] at q2
    rw [List.append_assoc, List.cons_append, q1, loopL_op (prodP_shr (primN_shr k)) cin, q2]
    simp only
    rw [if_neg (by omega)]
    rfl
  | @cmp k0 c ts us e f hc a b iha ihb =>
    intro k rest hk he hn
    simp only [Ex.ht] at he
    have c42 : ¬ c ∈ [42] := by rcases hc with rfl | rfl <;> decide
    have c43 : ¬ c ∈ [43, 45] := by rcases hc with rfl | rfl <;> decide
    have q1 := iha k (.y c :: (us ++ rest)) hk (by omega) (noOp_y c42)
    rw [loopL_stop (noOp_y c43)] at q1
    have q2 := ihb k rest hk (by omega) (noOp_sub hn (by decide))
    rw [loopL_stop (noOp_sub hn (by decide))] at q2
    unfold cmpP
    rw [List.append_assoc, List.cons_append, q1]
    simp only
    rw [if_pos hc, q2]
    simp only
    rw [if_neg (by omega)]
    rfl
/-! ### signs, compared -/
theorem deq_tk (a b : Tk) : deq a.D b.D = decide (a = b) := by
  obtain ⟨t2, t3, t4⟩ := tags
  have s2 := Ne.symm t2
  have s3 := Ne.symm t3
  have s4 := Ne.symm t4
  have e2 : ∀ (k l : Tx) (x y : QL.D), deq (.tup [.str k, x]) (.tup [.str l, y]) = (decide (k = l) && deq x y) := fun k l x y => by
    rw [deq_tup_cons, deq_tup_cons, deq_tup_nil, deq_str, Bool.and_true]
  cases a <;> cases b <;> simp [Tk.D, dW, dN, dY, e2, t2, t3, t4, s2, s3, s4, deq_str, deq_int, Int.ofNat_inj]
def hdD : List Tk → QL.D
  | [] => .tup [.non, .non]
  | t :: _ => t.D
theorem deq_hd (ts : List Tk) (t : Tk) : deq (hdD ts) t.D = decide (ts.head? = some t) := by
  cases ts with
  | nil => cases t <;> rfl
  | cons a r => simp [hdD, deq_tk]
theorem deq_hd' (ts : List Tk) (t : Tk) : deq t.D (hdD ts) = decide (ts.head? = some t) := by
  cases ts with
  | nil => cases t <;> rfl
  | cons a r =>
    simp only [hdD, deq_tk, List.head?_cons, Option.some.injEq]
    by_cases h : t = a
    · simp [h]
    · simp [h, Ne.symm h]
/-- the two signs that may stand first -/
theorem any_hd (ts : List Tk) (a b : Nat) : ([(Tk.y a).D, (Tk.y b).D].any fun x => deq x (hdD ts)) = true ↔ ∃ c r, ts = .y c :: r ∧ (c = a ∨ c = b) := by
  simp only [List.any_cons, List.any_nil, deq_hd', Bool.or_false, Bool.or_eq_true, decide_eq_true_eq]
  constructor
  · intro h
    cases ts with
    | nil => rcases h with h | h <;> cases h
    | cons t r => rcases h with h | h <;> (cases h; exact ⟨_, r, rfl, by simp⟩)
  · rintro ⟨c, r, rfl, rfl | rfl⟩
    · exact .inl rfl
    · exact .inr rfl
theorem okN_tk (t : Tk) : okN 64 t.D = true := by cases t <;> rfl
theorem okN_hd (ts : List Tk) : okN 64 (hdD ts) = true := by
  cases ts with
  | nil => rfl
  | cons a r => exact okN_tk a
theorem name_dot {v : Tx} : isName v = (decide (¬ 46 ∈ v) && decide (¬ v ∈ KWS)) := rfl
theorem any_kw (v : Tx) : ((KWS.map QL.D.str).any fun x => deq x (.str v)) = decide (v ∈ KWS) := by
  have : ∀ l : List Tx, ((l.map QL.D.str).any fun x => deq x (.str v)) = decide (v ∈ l) := by
    intro l
    induction l with
    | nil => rfl
    | cons a l ih =>
      rw [List.map_cons, List.any_cons, ih, deq_str]
      by_cases h : a = v <;> simp [h, eq_comm]
      intro hv; exact absurd hv.symm h
  exact this KWS
end QL
namespace QL
open PySem PySem.Spec PyProof.Rows L2 PySem.NumText
/-! ### the normal text of an expression -/
def lev (c : Nat) : Nat := if c = 61 ∨ c = 60 then 0 else if c = 43 ∨ c = 45 then 1 else 2
def VarOk (v : Tx) : Prop := v ≠ [] ∧ v.length ≤ 8 ∧ (∀ c ∈ v, c ∈ LET) ∧ isName v = true
def OpOk (c : Nat) : Prop := c = 61 ∨ c = 60 ∨ c = 43 ∨ c = 45 ∨ c = 42
def ExOk : Ex → Prop
  | .num n => n ≤ 1000000
  | .var v => VarOk v
  | .bin c l r => OpOk c ∧ ExOk l ∧ ExOk r
def par (b : Bool) (t : Tx) : Tx := if b then 40 :: (t ++ [41]) else t
def parT (b : Bool) (t : List Tk) : List Tk := if b then .y 40 :: (t ++ [.y 41]) else t
def txt : Nat → Ex → Tx
  | _, .num n => numT n
  | _, .var v => v
  | lv, .bin c l r => par (decide (lev c < lv)) (txt (max (lev c) 1) l ++ 32 :: c :: 32 :: txt (lev c + 1) r)
def toks : Nat → Ex → List Tk
  | _, .num n => [.n n]
  | _, .var v => [.w v]
  | lv, .bin c l r => parT (decide (lev c < lv)) (toks (max (lev c) 1) l ++ .y c :: toks (lev c + 1) r)
theorem numT_le {n : Nat} (h : n ≤ 1000000) : (numT n).length ≤ 7 := numT_len (by decide) (by omega)
theorem txt_len : ∀ (e : Ex) (lv : Nat), ExOk e → (txt lv e).length + 5 ≤ 15 * 2 ^ e.ht
  | .num n, lv, h => by
    have := numT_le h
    show (numT n).length + 5 ≤ 15 * 2
    omega
  | .var v, lv, h => by
    have := h.2.1
    show v.length + 5 ≤ 15 * 2
    omega
  | .bin c l r, lv, h => by
    have h1 := txt_len l (max (lev c) 1) h.2.1
    have h2 := txt_len r (lev c + 1) h.2.2
    have m1 : 2 ^ l.ht ≤ 2 ^ max l.ht r.ht := Nat.pow_le_pow_right (by decide) (Nat.le_max_left _ _)
    have m2 : 2 ^ r.ht ≤ 2 ^ max l.ht r.ht := Nat.pow_le_pow_right (by decide) (Nat.le_max_right _ _)
    show (par _ _).length + 5 ≤ 15 * 2 ^ (1 + max l.ht r.ht)
    rw [Nat.pow_add, Nat.pow_one]
    have : (par (decide (lev c < lv)) (txt (max (lev c) 1) l ++ 32 :: c :: 32 :: txt (lev c + 1) r)).length ≤ (txt (max (lev c) 1) l).length + (txt (lev c + 1) r).length + 5 := by
      unfold par
      split <;> simp <;> omega
    omega
/-- what may stand behind -/
def Sep (r : Tx) : Prop := ∀ c, r.head? = some c → ¬ c ∈ LET ∧ ¬ c ∈ DIG ∧ c ≠ 46
theorem sep_nil : Sep [] := fun c h => by cases h
theorem sep_sp {r : Tx} : Sep (32 :: r) := fun c h => by cases h; exact ⟨sp_other.1, sp_other.2.1, by decide⟩
theorem sep_sym {c : Nat} {r : Tx} (hc : c ∈ SYM) : Sep (c :: r) := fun d h => by
  cases h
  have := sym_other hc
  exact ⟨this.1, this.2.1, this.2.2.1⟩
theorem op_sym {c : Nat} (h : OpOk c) : c ∈ SYM := by
  rcases h with rfl | rfl | rfl | rfl | rfl <;> decide
theorem lex_txt : ∀ (e : Ex) (lv : Nat) (r : Tx), ExOk e → Sep r → lex (txt lv e ++ r) = (lex r).map ((toks lv e).map Tk.D ++ ·)
  | .num n, lv, r, h, s => lex_num h fun c hc => (s c hc).2.1
  | .var v, lv, r, h, s => lex_word ⟨v, h.1, h.2.1, h.2.2.1, .inl rfl⟩ (fun z c hc => (s c hc).2.1) fun _ c hc => ⟨(s c hc).1, (s c hc).2.2⟩
  | .bin c l r', lv, r, h, s => by
    have body : ∀ r, Sep r → lex ((txt (max (lev c) 1) l ++ 32 :: c :: 32 :: txt (lev c + 1) r') ++ r) = (lex r).map (((toks (max (lev c) 1) l ++ .y c :: toks (lev c + 1) r').map Tk.D) ++ ·) := fun r s => by
      have e : (txt (max (lev c) 1) l ++ 32 :: c :: 32 :: txt (lev c + 1) r') ++ r = txt (max (lev c) 1) l ++ (32 :: c :: 32 :: (txt (lev c + 1) r' ++ r)) := by simp
      rw [e, lex_txt l _ _ h.2.1 sep_sp, lex_space, lex_sym (op_sym h.1), lex_space, lex_txt r' _ _ h.2.2 s]
      cases lex r <;> simp [Tk.D]
    show lex (par (decide (lev c < lv)) _ ++ r) = (lex r).map ((parT (decide (lev c < lv)) _).map Tk.D ++ ·)
    unfold par parT
    cases decide (lev c < lv) with
    | true =>
      simp only [if_true]
      have e : (40 :: ((txt (max (lev c) 1) l ++ 32 :: c :: 32 :: txt (lev c + 1) r') ++ [41])) ++ r = 40 :: ((txt (max (lev c) 1) l ++ 32 :: c :: 32 :: txt (lev c + 1) r') ++ (41 :: r)) := by simp
      rw [e, lex_sym (by decide), body _ (sep_sym (by decide)), lex_sym (by decide)]
      cases lex r <;> simp [Tk.D]
    | false => exact body r s
theorem lex_text {e : Ex} {lv : Nat} (h : ExOk e) : lex (txt lv e) = some ((toks lv e).map Tk.D) := by
  have := lex_txt e lv [] h sep_nil
  rw [List.append_nil, lex_nil] at this
  simpa using this
/-- how deep parentheses stand in it -/
def pdep : Nat → Ex → Nat
  | _, .num _ => 0
  | _, .var _ => 0
  | lv, .bin c l r => max (pdep (max (lev c) 1) l) (pdep (lev c + 1) r) + (if lev c < lv then 1 else 0)
theorem pdep_le : ∀ (e : Ex) (lv : Nat), pdep lv e + 1 ≤ e.ht
  | .num _, _ => Nat.le_refl _
  | .var _, _ => Nat.le_refl _
  | .bin c l r, lv => by
    have h1 := pdep_le l (max (lev c) 1)
    have h2 := pdep_le r (lev c + 1)
    show max _ _ + _ + 1 ≤ 1 + max l.ht r.ht
    split <;> omega
theorem Der.mono {l j : Nat} {ts : List Tk} {e : Ex} (h : Der l j ts e) : ∀ {k : Nat}, j ≤ k → Der l k ts e := by
  induction h with
  | num => intro k _; exact .num
  | var h => intro k _; exact .var h
  | par h ih =>
    intro k hk
    cases k with
    | zero => omega
    | succ k => exact .par (ih (by omega))
  | up h ih => intro k hk; exact .up (ih hk)
  | mul a b iha ihb => intro k hk; exact .mul (iha hk) (ihb hk)
  | add hc a b iha ihb => intro k hk; exact .add hc (iha hk) (ihb hk)
  | cmp hc a b iha ihb => intro k hk; exact .cmp hc (iha hk) (ihb hk)
theorem Der.down {a b k : Nat} {ts : List Tk} {e : Ex} (h : Der a k ts e) (hb : b ≤ a) : Der b k ts e := by
  obtain ⟨n, rfl⟩ : ∃ n, a = b + n := ⟨a - b, by omega⟩
  clear hb
  induction n with
  | zero => exact h
  | succ n ih => exact ih (.up h)
theorem toks_der : ∀ (e : Ex) (lv : Nat), lv ≤ 3 → ExOk e → Der lv (pdep lv e) (toks lv e) e
  | .num n, lv, hl, h => Der.num.down hl
  | .var v, lv, hl, h => (Der.var h.2.2.2).down hl
  | .bin c l r, lv, hl, h => by
    have lc : lev c ≤ 2 := by unfold lev; split <;> (try split) <;> omega
    have h1 := (toks_der l (max (lev c) 1) (by omega) h.2.1).mono (k := max (pdep (max (lev c) 1) l) (pdep (lev c + 1) r)) (Nat.le_max_left _ _)
    have h2 := (toks_der r (lev c + 1) (by omega) h.2.2).mono (k := max (pdep (max (lev c) 1) l) (pdep (lev c + 1) r)) (Nat.le_max_right _ _)
    have body : Der (lev c) (max (pdep (max (lev c) 1) l) (pdep (lev c + 1) r)) (toks (max (lev c) 1) l ++ .y c :: toks (lev c + 1) r) (.bin c l r) := by
      generalize max (pdep (max (lev c) 1) l) (pdep (lev c + 1) r) = k at h1 h2
      rcases h.1 with rfl | rfl | rfl | rfl | rfl
      · exact .cmp (.inl rfl) h1 h2
      · exact .cmp (.inr rfl) h1 h2
      · exact .add (.inl rfl) h1 h2
      · exact .add (.inr rfl) h1 h2
      · exact .mul h1 h2
    show Der lv (max _ _ + _) (parT _ _) _
    unfold parT
    by_cases hq : lev c < lv
    · rw [if_pos hq, decide_eq_true hq, if_pos rfl]
      exact (Der.par (body.down (Nat.zero_le _))).down hl
    · rw [if_neg hq, decide_eq_false hq]
      exact body.down (by omega)
theorem any_nv (t : Tx) : ([QL.D.str (tx "number"), QL.D.str (tx "variable")].any fun x => deq x (.str t)) = (decide (t = tx "number") || decide (t = tx "variable")) := by
  simp only [List.any_cons, List.any_nil, deq_str, Bool.or_false]
  rw [decide_eq_decide.mpr eq_comm, decide_eq_decide (p := tx "variable" = t) |>.mpr eq_comm]
theorem tag1 (c : Nat) : (decide ([c] = tx "number") || decide ([c] = tx "variable")) = false := by
  have a : ¬ [c] = tx "number" := fun h => by have := congrArg List.length h; exact absurd this (show ¬ (1 = 6) by decide)
  have b : ¬ [c] = tx "variable" := fun h => by have := congrArg List.length h; exact absurd this (show ¬ (1 = 8) by decide)
  simp [a, b]
/-- the levels as they are written -/
def LVS : List (Tx × QL.D) := [(tx "=", .int 0), (tx "<", .int 0), (tx "+", .int 1), (tx "-", .int 1), (tx "*", .int 2)]
theorem lvs_op {c : Nat} (h : OpOk c) : LVS.lookup [c] = some (.int (lev c)) := by
  rcases h with rfl | rfl | rfl | rfl | rfl <;> rfl
end QL
namespace QL
open PySem PySem.Spec PyProof.Rows L2 PySem.NumText
/-! ### chains of one operation -/
def OpA (c : Nat) : Prop := c = 43 ∨ c = 45 ∨ c = 42
theorem OpA.ok {c : Nat} (h : OpA c) : OpOk c := by unfold OpA at h; unfold OpOk; omega
/-! parentheses around -/
/-! the left chain -/
def tl (c j : Nat) : List Tk := (List.replicate j [Tk.y c, .n 1]).flatten
/-! the right chain -/
def PT (c : Nat) : Nat → List Tk
  | 0 => [.n 1]
  | j + 1 => .y 40 :: ((.w [120] :: .y c :: PT c j) ++ [.y 41])
theorem okN_ex : ∀ (e : Ex) (n : Nat), e.ht ≤ n → okN n e.D = true
  | .num _, 0, h => by exact absurd h (by show ¬ 1 ≤ 0; omega)
  | .var _, 0, h => by exact absurd h (by show ¬ 1 ≤ 0; omega)
  | .bin _ l r, 0, h => by exact absurd h (by show ¬ 1 + _ ≤ 0; omega)
  | .num _, n + 1, h => rfl
  | .var _, n + 1, h => rfl
  | .bin c l r, n + 1, h => by
    have h : 1 + max l.ht r.ht ≤ n + 1 := h
    have a := okN_ex l n (by omega)
    have b := okN_ex r n (by omega)
    simp [Ex.D, okN, okN.okNs, a, b]
theorem okL_ex : ∀ e : Ex, okL e.D = true
  | .num _ => by simp [Ex.D, okL, okL.okLs]
  | .var _ => by simp [Ex.D, okL, okL.okLs]
  | .bin c l r => by
    have a := okL_ex l
    have b := okL_ex r
    simp [Ex.D, okL, okL.okLs, a, b]
end QL
namespace QL
open PySem PySem.Spec PyProof.Rows L2 PySem.NumText
/-! ### signs never cross a symbol either -/
def Bnd (b : Nat) : Prop := ¬ b ∈ LET ∧ ¬ b ∈ DIG ∧ b ≠ 46
theorem bnd_sym {c : Nat} (h : c ∈ SYM) : Bnd c := ⟨(sym_other h).1, (sym_other h).2.1, (sym_other h).2.2.1⟩
theorem spn_bnd {cs : Tx} {x : Nat} (h : ¬ x ∈ cs) (a b : Tx) : spn cs (a ++ x :: b) = spn cs a := by
  induction a with
  | nil => exact spn_out h
  | cons c a ih =>
    by_cases hc : c ∈ cs
    · rw [List.cons_append, spn_in hc, spn_in hc, ih]
    · rw [List.cons_append, spn_out hc, spn_out hc]
theorem take_bnd {a b : Tx} {x n : Nat} (h : n ≤ a.length) : (a ++ x :: b).take n = a.take n := List.take_append_of_le_length h
theorem drop_bnd {a b : Tx} {x n : Nat} (h : n ≤ a.length) : (a ++ x :: b).drop n = a.drop n ++ x :: b := List.drop_append_of_le_length h
theorem wordLen_bnd {x : Nat} (hx : Bnd x) (a b : Tx) : wordLen (a ++ x :: b) = wordLen a := by
  have le := spn_le LET a
  unfold wordLen
  rw [spn_bnd hx.1]
  generalize spn LET a = s at *
  rcases Nat.lt_or_eq_of_le le with h | h
  · rw [List.getElem?_append_left h, drop_bnd (show s + 1 ≤ a.length by omega), spn_bnd hx.2.1, take_bnd (spn_le _ _)]
  · have e1 : (a ++ x :: b)[s]? = some x := by rw [h]; simp
    have e2 : a[s]? = none := by rw [h]; simp
    rw [e1, e2]
    have n1 : ¬ (some x = some 46) := fun z => hx.2.2 (Option.some.inj z)
    have n2 : ¬ ((none : Option Nat) = some 46) := fun z => by cases z
    rw [if_neg n1, if_neg n2]
theorem lex1_bnd {x : Nat} (hx : Bnd x) (c : Nat) (r b : Tx) : lex1 c (r ++ x :: b) = lex1 c r := by
  unfold lex1
  by_cases h1 : c ∈ LET
  · rw [if_pos h1, if_pos h1, ← List.cons_append, wordLen_bnd hx]
    cases e : wordLen (c :: r) with
    | none => rfl
    | some k =>
      have := (wordLen_pos h1 e).2
      simp only [Option.map_some]
      rw [take_bnd this]
  · rw [if_neg h1, if_neg h1]
    by_cases h2 : c ∈ DIG
    · rw [if_pos h2, if_pos h2, ← List.cons_append, spn_bnd hx.2.1, take_bnd (spn_le _ _)]
    · rw [if_neg h2, if_neg h2]
theorem lex_bnd {x : Nat} (hx : Bnd x) : ∀ (n : Nat) (a b : Tx), a.length ≤ n → lex (a ++ x :: b) = (lex a).bind fun t => (lex (x :: b)).map (t ++ ·)
  | _, [], b, _ => by
    rw [List.nil_append, lex_nil]
    cases lex (x :: b) <;> simp
  | n + 1, c :: r, b, h => by
    rw [List.cons_append, lex_cons, lex1_bnd hx, lex_cons]
    cases e : lex1 c r with
    | none => rfl
    | some p =>
      obtain ⟨t, k⟩ := p
      have hp := lex1_pos e
      simp only
      rw [← List.cons_append, drop_bnd hp.2.1, lex_bnd hx n _ _ (by rw [List.length_drop]; simp only [List.length_cons] at h ⊢; omega)]
      cases lex ((c :: r).drop k) with
      | none => rfl
      | some u => cases lex (x :: b) <;> simp
theorem lex_at {x : Nat} (hx : Bnd x) (a b : Tx) : lex (a ++ x :: b) = (lex a).bind fun t => (lex (x :: b)).map (t ++ ·) := lex_bnd hx _ a b (Nat.le_refl _)
/-! ### drawn spaces -/
inductive Loose : Tx → Tx → Prop where
  | nil : Loose [] []
  | sp {t u : Tx} (n : Nat) (h : Loose t u) : Loose (32 :: t) (List.replicate (1 + n) 32 ++ u)
  | sym {t u : Tx} {c : Nat} (a b : Nat) (hc : c ∈ SYM) (h : Loose t u) : Loose (c :: t) (List.replicate a 32 ++ c :: (List.replicate b 32 ++ u))
  | oth {t u : Tx} {c : Nat} (h : Loose t u) : Loose (c :: t) (c :: u)
theorem lex_rep {w u : Tx} : ∀ n : Nat, 0 < n → lex (w ++ (List.replicate n 32 ++ u)) = (lex w).bind fun t => (lex u).map (t ++ ·)
  | n + 1, _ => by
    rw [List.replicate_succ, List.cons_append, lex_split, lex_spaces]
theorem loose_lex {t u : Tx} (h : Loose t u) : ∀ w, lex (w ++ t) = lex (w ++ u) := by
  induction h with
  | nil => intro w; rfl
  | @sp t u n h ih =>
    intro w
    have i0 := ih []
    rw [List.nil_append, List.nil_append] at i0
    rw [lex_split, lex_rep _ (by omega), i0]
  | @sym t u c a b hc h ih =>
    intro w
    have i0 := ih []
    rw [List.nil_append, List.nil_append] at i0
    have e : lex (c :: (List.replicate b 32 ++ u)) = lex (c :: t) := by rw [lex_sym hc, lex_spaces, lex_sym hc, i0]
    rw [lex_at (bnd_sym hc)]
    cases a with
    | zero =>
      show _ = lex (w ++ c :: (List.replicate b 32 ++ u))
      rw [lex_at (bnd_sym hc), e]
    | succ a => rw [lex_rep _ (by omega), e]
  | @oth t u c h ih =>
    intro w
    have := ih (w ++ [c])
    simpa using this
theorem Loose.snoc_oth {t u : Tx} {c : Nat} (h : Loose t u) : Loose (t ++ [c]) (u ++ [c]) := by
  induction h with
  | nil => exact .oth .nil
  | sp n h ih => have := Loose.sp n ih; simpa using this
  | sym a b hc h ih => have := Loose.sym a b hc ih; simpa using this
  | oth h ih => exact .oth ih
theorem Loose.snoc_sp {t u : Tx} (h : Loose t u) (n : Nat) : Loose (t ++ [32]) (u ++ List.replicate (1 + n) 32) := by
  induction h with
  | nil => have := Loose.sp n .nil; simpa using this
  | sp m h ih => have := Loose.sp m ih; simpa using this
  | sym a b hc h ih => have := Loose.sym a b hc ih; simpa using this
  | oth h ih => exact .oth ih
theorem Loose.snoc_sym {t u : Tx} {c : Nat} (h : Loose t u) (hc : c ∈ SYM) (a b : Nat) : Loose (t ++ [c]) (u ++ List.replicate a 32 ++ [c] ++ List.replicate b 32) := by
  induction h with
  | nil => have := Loose.sym a b hc .nil; simpa using this
  | sp m h ih => have := Loose.sp m ih; simpa using this
  | sym a' b' hc' h ih => have := Loose.sym a' b' hc' ih; simpa using this
  | @oth t' u' d h ih => have := Loose.oth (c := d) ih; simpa using this
theorem loose_all {t u : Tx} (h : Loose t u) (a b : Nat) : lex (List.replicate a 32 ++ u ++ List.replicate b 32) = lex t := by
  have i0 := loose_lex h []
  rw [List.nil_append, List.nil_append] at i0
  rw [List.append_assoc, lex_spaces]
  cases b with
  | zero => rw [List.replicate_zero, List.append_nil, i0]
  | succ b =>
    have e := lex_rep (w := u) (u := []) (b + 1) (by omega)
    rw [List.append_nil, lex_nil] at e
    rw [e, i0]
    cases lex u <;> simp
/-! ### parentheses around every part -/
/-! ### an expression's own text is short -/
end QL
namespace QL
open PySem PySem.Spec PyProof.Rows L2
/-! ### a text cut at a sign -/
def splitT (c : Nat) : Tx → List Tx
  | [] => [[]]
  | a :: r => if a = c then [] :: splitT c r else match splitT c r with
    | [] => [[a]]
    | p :: ps => (a :: p) :: ps
theorem splitT_ne (c : Nat) : ∀ x : Tx, splitT c x ≠ []
  | [] => by simp [splitT]
  | a :: r => by
    unfold splitT
    split
    · simp
    · split <;> simp
theorem splitT_no {c : Nat} : ∀ {x p : Tx}, p ∈ splitT c x → c ∉ p
  | [], p, h => by
    rw [List.mem_singleton.mp h]; simp
  | a :: r, p, h => by
    unfold splitT at h
    split at h
    · rcases List.mem_cons.mp h with rfl | h
      · simp
      · exact splitT_no h
    · rename_i ne
      split at h
      · rename_i e
        exact absurd e (splitT_ne c r)
      · rename_i q qs e
        rcases List.mem_cons.mp h with rfl | h
        · intro m
          rcases List.mem_cons.mp m with rfl | m
          · exact ne rfl
          · exact splitT_no (x := r) (by rw [e]; exact List.mem_cons_self ..) m
        · exact splitT_no (x := r) (by rw [e]; exact List.mem_cons_of_mem _ h)
theorem joinT_cons {sep x : Tx} {ps : List Tx} (h : ps ≠ []) : joinT sep (x :: ps) = x ++ sep ++ joinT sep ps := by
  cases ps with
  | nil => exact absurd rfl h
  | cons y r => rfl
theorem splitT_join (c : Nat) : ∀ x : Tx, joinT [c] (splitT c x) = x
  | [] => rfl
  | a :: r => by
    have ih := splitT_join c r
    unfold splitT
    split
    · rename_i e
      rw [joinT_cons (splitT_ne c r), ih, e]; rfl
    · split
      · rename_i e
        exact absurd e (splitT_ne c r)
      · rename_i q qs e
        rw [e] at ih
        cases qs with
        | nil =>
          have ih : q = r := ih
          rw [ih]; rfl
        | cons y s =>
          rw [joinT_cons (by simp)] at ih ⊢
          show a :: (q ++ [c] ++ joinT [c] (y :: s)) = _
          rw [ih]
theorem splitT_hd (c : Nat) : ∀ x : Tx, ∃ ps, splitT c x = x.takeWhile (fun a => a != c) :: ps
  | [] => ⟨[], rfl⟩
  | a :: r => by
    obtain ⟨ps, ih⟩ := splitT_hd c r
    unfold splitT
    by_cases e : a = c
    · rw [if_pos e, List.takeWhile_cons_of_neg (by simp [e])]
      exact ⟨_, rfl⟩
    · rw [if_neg e, ih, List.takeWhile_cons_of_pos (by simp [e])]
      exact ⟨ps, rfl⟩
/-! ### nodes -/
def isLabel (v : Tx) : Bool := isName (v.takeWhile fun a => a != 46)
inductive Dd where
  | set (v : Tx) (e : Ex) | prt (e : Ex) | cnd (e : Ex)
def Dd.D : Dd → QL.D
  | .set v e => .tup [.str (tx "set"), .str v, e.D]
  | .prt e => .tup [.str (tx "print"), e.D]
  | .cnd e => .tup [.str (tx "if"), e.D]
def Dd.isC : Dd → Bool
  | .cnd _ => true
  | _ => false
structure Nd where
  l : Tx
  d : Dd
  t : List Tx
def Nd.D (n : Nd) : QL.D := .tup [.str n.l, n.d.D, .tup (n.t.map QL.D.str)]
/-! ### the parser of lines, mirrored -/
def lblP : List Tk → Option (Tx × List Tk)
  | .w v :: r => if isLabel v = true then some (v, r) else none
  | _ => none
def exprP (ts : List Tk) : Option (Ex × List Tk) := (cmpP (primN 20) ts).map fun x => (x.1, x.2.2)
def expP (t : Tk) : List Tk → Option (List Tk)
  | u :: r => if u = t then some r else none
  | [] => none
def namP : List Tk → Option (Tx × List Tk)
  | .w v :: r => if isName v = true then some (v, r) else none
  | _ => none
def deedP (ts : List Tk) : Option (Dd × List Tk) :=
  if ts.head? = some (.w (tx "print")) then (exprP ts.tail).map fun x => (.prt x.1, x.2)
  else if ts.head? = some (.w (tx "if")) then (exprP ts.tail).map fun x => (.cnd x.1, x.2)
  else (namP ts).bind fun x => (expP (.y 61) x.2).bind fun r => (exprP r).map fun y => (.set x.1 y.1, y.2)
/-- what a line is -/
def LineIs {α : Type} (p : List Tk → Option α) (l : Tx) (x : α) : Prop := ∃ tk : List Tk, lex l = some (tk.map Tk.D) ∧ p tk = some x
def NoLine {α : Type} (p : List Tk → Option α) (l : Tx) : Prop := lex l = none ∨ ∃ tk : List Tk, lex l = some (tk.map Tk.D) ∧ p tk = none
theorem lblP_suf {ts r : List Tk} {v : Tx} (h : lblP ts = some (v, r)) : ts = .w v :: r ∧ isLabel v = true := by
  unfold lblP at h
  split at h
  · split at h
    · cases h; exact ⟨rfl, by assumption⟩
    · cases h
  · cases h
theorem expP_suf {t : Tk} {ts r : List Tk} (h : expP t ts = some r) : ts = t :: r := by
  unfold expP at h
  split at h
  · split at h
    · cases h; rename_i e; rw [e]
    · cases h
  · cases h
end QL
namespace QL
open PySem PySem.Spec PyProof.Rows L2
/-! ### blank rows; the row that tells the entry -/
def isBl (r : Tx) : Bool := r.all sp32
theorem dw_nil {q : Nat → Bool} : ∀ {x : Tx}, x.dropWhile q = [] ↔ ∀ c ∈ x, q c = true
  | [] => by simp
  | c :: r => by
    by_cases h : q c = true
    · rw [List.dropWhile_cons_of_pos h, dw_nil]
      simp [h]
    · rw [List.dropWhile_cons_of_neg h]
      simp [h]
theorem dw_head {q : Nat → Bool} : ∀ {x : Tx} {c : Nat} {r : Tx}, x.dropWhile q = c :: r → q c = false
  | [], _, _, h => by cases h
  | a :: x, c, r, h => by
    by_cases e : q a = true
    · rw [List.dropWhile_cons_of_pos e] at h; exact dw_head h
    · rw [List.dropWhile_cons_of_neg e] at h
      cases h; simpa using e
theorem ssT_nil (x : Tx) : decide (ssT x = []) = isBl x := by
  rw [Bool.eq_iff_iff, decide_eq_true_iff]
  unfold ssT isBl
  rw [List.reverse_eq_nil_iff, dw_nil, List.all_eq_true]
  constructor
  · intro h
    cases e : x.dropWhile sp32 with
    | nil => exact dw_nil.mp e
    | cons c r =>
      have h1 := dw_head e
      have h2 := h c (by rw [e]; simp)
      rw [h1] at h2; cases h2
  · intro h c hc
    rw [dw_nil.mpr h] at hc
    cases hc
theorem lex_sps : ∀ (x : Tx), lex x = lex (lsT x)
  | [] => rfl
  | c :: r => by
    by_cases h : c = 32
    · subst h
      rw [lex_space]
      have : lsT (32 :: r) = lsT r := List.dropWhile_cons_of_pos rfl
      rw [this]; exact lex_sps r
    · have : lsT (c :: r) = c :: r := List.dropWhile_cons_of_neg (by unfold sp32; simpa using h)
      rw [this]
theorem lex_bl {x : Tx} (h : isBl x = true) : lex x = some [] := by
  rw [lex_sps]
  have : lsT x = [] := dw_nil.mpr (by unfold isBl at h; rwa [List.all_eq_true] at h)
  rw [this]; exact lex_nil
theorem line_nb {α : Type} {p : List Tk → Option α} {l : Tx} {x : α} (hp : p [] = none) (h : LineIs p l x) : isBl l = false := by
  cases e : isBl l with
  | false => rfl
  | true =>
    obtain ⟨tk, h1, h2⟩ := h
    rw [lex_bl e] at h1
    have : tk = [] := by
      cases tk with
      | nil => rfl
      | cons a b => cases h1
    rw [this, hp] at h2; cases h2
/-! ### the rows of a source with jumps -/
end QL
namespace QL
open PySem PySem.Spec PyProof.Rows L2
/-! ### dicts by their keys -/
theorem isK_str {z y : Tx} : isK z (.str y) = (z == y) := rfl
theorem getD_cons {k d : D} {kvs : List (D × D)} {z : Tx} : getD ((k, d) :: kvs) z = if isK z k = true then some d else getD kvs z := by
  unfold getD
  by_cases h : isK z k = true
  · rw [List.find?_cons_of_pos (p := fun e : D × D => isK z e.1) (a := (k, d)) h, if_pos h]; rfl
  · rw [List.find?_cons_of_neg (p := fun e : D × D => isK z e.1) (a := (k, d)) (by simpa using h), if_neg h]
theorem getD_app {a b : List (D × D)} {z : Tx} : getD (a ++ b) z = (getD a z).or (getD b z) := by
  induction a with
  | nil => rfl
  | cons e a ih =>
    obtain ⟨k, d⟩ := e
    rw [List.cons_append, getD_cons, getD_cons, ih]
    split <;> rfl
theorem isK_two {x y : Tx} {k : D} (h : isK x k = true) : isK y k = decide (y = x) := by
  cases k with
  | str s =>
    rw [isK_str, beq_iff_eq] at h
    rw [isK_str, h, Bool.eq_iff_iff, beq_iff_eq, decide_eq_true_iff]
  | _ => cases h
theorem getD_map {kvs : List (D × D)} {z y : Tx} {v : D} : getD (kvs.map fun e => if isK z e.1 = true then (e.1, v) else e) y = if y = z then (getD kvs z).map (fun _ => v) else getD kvs y := by
  induction kvs with
  | nil => simp [getD]
  | cons e kvs ih =>
    obtain ⟨k, d⟩ := e
    rw [List.map_cons]
    by_cases h : isK z k = true
    · rw [if_pos h, getD_cons, isK_two h, ih, getD_cons, if_pos h, getD_cons, isK_two h]
      by_cases e : y = z
      · simp [e]
      · simp [e]
    · rw [if_neg h, getD_cons, ih, getD_cons, if_neg h, getD_cons]
      by_cases e : y = z
      · subst e; simp [h]
      · simp [e]
theorem any_isK {kvs : List (D × D)} {z : Tx} : (kvs.any fun e => isK z e.1) = (getD kvs z).isSome := by
  induction kvs with
  | nil => rfl
  | cons e kvs ih =>
    obtain ⟨k, d⟩ := e
    rw [List.any_cons, ih, getD_cons]
    cases isK z k <;> simp
theorem getD_put {kvs : List (D × D)} {z y : Tx} {v : D} : getD (putK' kvs z v) y = if y = z then some v else getD kvs y := by
  unfold putK'
  rw [any_isK]
  cases e : getD kvs z with
  | some d =>
    rw [Option.isSome_some, if_pos rfl, getD_map]
    by_cases h : y = z
    · rw [if_pos h, if_pos h, e]; rfl
    · rw [if_neg h, if_neg h]
  | none =>
    rw [Option.isSome_none, if_neg (by decide), getD_app, getD_cons, isK_str]
    by_cases h : y = z
    · subst h
      simp [e]
    · simp [h, getD]
theorem put_len {kvs : List (D × D)} {z : Tx} {v : D} : (putK' kvs z v).length ≤ kvs.length + 1 := by
  unfold putK'
  split
  · rw [List.length_map]; omega
  · rw [List.length_append]; exact Nat.le_refl _
/-- a dict whose keys are these -/
structure DKeys (M : Mp) (a : Addr) (s : List Tx) (n : Nat) : Prop where
  ex : ∃ kvs, M a = some (.dic kvs) ∧ (∀ z, (getD kvs z).isSome = decide (z ∈ s)) ∧ kvs.length ≤ n
theorem DKeys.nil {M : Mp} {a : Addr} (h : M a = some (.dic [])) : DKeys M a [] 0 := ⟨[], h, fun z => by simp [getD], Nat.le_refl _⟩
theorem DKeys.put {M : Mp} {a : Addr} {s : List Tx} {n : Nat} {kvs : List (D × D)} {t : Tx} {v : D} (h2 : ∀ z, (getD kvs z).isSome = decide (z ∈ s)) (h3 : kvs.length ≤ n) : DKeys (upm M a (.dic (putK' kvs t v))) a (s ++ [t]) (n + 1) := by
  refine ⟨_, upm_same, fun z => ?_, Nat.le_trans put_len (by omega)⟩
  rw [getD_put]
  by_cases e : z = t
  · subst e; simp
  · rw [if_neg e, h2]; simp [e]
/-! ### the search, by depth -/
abbrev EX : Tx := tx "exit"
inductive All (G : Tx → List Tx) : Nat → Nat → List Tx → List Tx → List Tx → List Tx → Prop where
  | nil {d : Nat} {s : List Tx} : All G d 0 s [] s []
  | skip {d n : Nat} {s ts s' f : List Tx} {t : Tx} (h : t = EX ∨ t ∈ s) (k : All G d n s ts s' f) : All G d (n + 1) s (t :: ts) s' f
  | go {d n1 n2 : Nat} {s ts s1 s2 f1 f2 : List Tx} {t : Tx} (h1 : t ≠ EX) (h2 : ¬ t ∈ s) (v : All G d n1 (s ++ [t]) (G t).reverse s1 f1) (k : All G (d + 1) n2 s1 ts s2 f2) : All G (d + 1) (n1 + n2 + 2) s (t :: ts) s2 (f1 ++ t :: f2)
theorem All.sub {G : Tx → List Tx} {d n : Nat} {s ts s' f : List Tx} (h : All G d n s ts s' f) : ∀ x ∈ s, x ∈ s' := by
  induction h with
  | nil => exact fun x h => h
  | skip _ _ ih => exact ih
  | go _ _ _ _ ih1 ih2 => exact fun x hx => ih2 x (ih1 x (List.mem_append_left _ hx))
theorem All.up {G : Tx → List Tx} {d n : Nat} {s ts s' f : List Tx} (h : All G d n s ts s' f) : All G (d + 1) n s ts s' f := by
  induction h with
  | nil => exact .nil
  | skip h _ ih => exact .skip h ih
  | go h1 h2 _ _ ih1 ih2 => exact .go h1 h2 ih1 ih2
theorem All.one {G : Tx → List Tx} {d n : Nat} {s ts s' f : List Tx} (h : All G d n s ts s' f) : ∀ {d' n' : Nat} {s'' f' : List Tx}, All G d' n' s ts s'' f' → s' = s'' ∧ f = f' := by
  induction h with
  | nil => intro d' n' s'' f' k; cases k; exact ⟨rfl, rfl⟩
  | skip h _ ih =>
    intro d' n' s'' f' k
    cases k with
    | skip _ k => exact ih k
    | go h1 h2 _ _ => rcases h with h | h
                      · exact absurd h h1
                      · exact absurd h h2
  | go h1 h2 _ _ ih1 ih2 =>
    intro d' n' s'' f' k
    cases k with
    | skip h _ => rcases h with h | h
                  · exact absurd h h1
                  · exact absurd h h2
    | go _ _ v k =>
      obtain ⟨e1, e2⟩ := ih1 v
      subst e1 e2
      obtain ⟨e3, e4⟩ := ih2 k
      subst e3 e4
      exact ⟨rfl, rfl⟩
/-- a graph whose targets are its labels or the exit -/
def Closed (G : Tx → List Tx) (L : List Tx) : Prop := ∀ l ∈ L, ∀ t ∈ G l, t = EX ∨ t ∈ L
/-- the same by a stack, its top ahead -/
inductive Cont (G : Tx → List Tx) : Nat → List (Tx × List Tx) → List Tx → List Tx → Prop where
  | nil {s : List Tx} : Cont G 0 [] s []
  | cons {d n1 n2 : Nat} {l : Tx} {left : List Tx} {r : List (Tx × List Tx)} {s s1 f1 f2 : List Tx} (a : All G d n1 s left.reverse s1 f1) (k : Cont G n2 r s1 f2) : Cont G (n1 + n2 + 1) ((l, left) :: r) s (f1 ++ l :: f2)
end QL
namespace QL
open PySem PySem.Spec PyProof.Rows L2
theorem Cont.len {G : Tx → List Tx} {n : Nat} {r : List (Tx × List Tx)} {s f : List Tx} (h : Cont G n r s f) : r.length ≤ n := by
  induction h with
  | nil => exact Nat.le_refl _
  | cons _ _ ih => simp only [List.length_cons]; omega
theorem tru_lst {a : Addr} {M : Mp} {xs : List D} {B : Bool → Mp → Prop} (h : M a = some (.lst xs)) : truD (.ob a) M B = B (!xs.isEmpty) M := by
  apply propext
  constructor
  · rintro (⟨ys, e, q⟩ | ⟨ys, e, q⟩)
    · rw [h] at e; cases e; exact q
    · rw [h] at e; cases e
  · exact fun q => .inl ⟨xs, h, q⟩
end QL
namespace QL
open PySem PySem.Spec PyProof.Rows L2
/-! ### nodes by their labels -/
def findN (ns : List Nd) (l : Tx) : Option Nd := ns.find? fun n => l == n.l
def GN (ns : List Nd) (l : Tx) : List Tx := match findN ns l with
  | some n => n.t
  | none => []
/-- the order of the reachable labels, and the nodes in it -/
structure Ord (e : Tx) (ns : List Nd) (f : List Tx) : Prop where
  all : ∃ d n s', All (GN ns) d n [] [e] s' f ∧ n ≤ 1000000 ∧ d ≤ ns.length
/-! ### texts of nodes -/
def ddTx : Dd → Tx
  | .set v e => v ++ tx " = " ++ txt 0 e
  | .prt e => tx "print" ++ tx " " ++ txt 0 e
  | .cnd e => tx "if" ++ tx " " ++ txt 0 e
def Dd.ex : Dd → Ex
  | .set _ e => e
  | .prt e => e
  | .cnd e => e
structure NdOk (n : Nd) : Prop where
  ex : ExOk n.d.ex
  ht : n.d.ex.ht ≤ 10
  t : (n.d.isC = true ∧ ∃ a b, n.t = [a, b]) ∨ (n.d.isC = false ∧ ∃ a, n.t = [a])
  lt : ∀ t ∈ n.t, t.length ≤ 20
  ll : n.l.length ≤ 20
  vl : ∀ v e, n.d = .set v e → v.length ≤ 20
end QL
namespace QL
open PySem PySem.Spec PyProof.Rows L2
/-! ### the normal line of a node is read as the node -/
theorem lex_w {w : Tx} (h : WordOk w) : lex w = some [dW w] := by
  have := lex_word (r := []) h (fun _ c hc => by cases hc) (fun _ c hc => by cases hc)
  rw [List.append_nil, lex_nil] at this
  simpa using this
theorem lex_ww {w r : Tx} (h : WordOk w) : lex (w ++ 32 :: r) = (lex r).map ([dW w] ++ ·) := by
  rw [lex_split, lex_w h]; rfl
theorem lex_wy {w r : Tx} {c : Nat} (h : WordOk w) (hc : c ∈ SYM) : lex (w ++ c :: r) = (lex r).map (fun t => [dW w] ++ ([dY c] ++ t)) := by
  rw [lex_at (bnd_sym hc), lex_w h, lex_sym hc]
  cases lex r <;> rfl
/-- a label -/
structure LabOk2 (l : Tx) : Prop where
  w : WordOk l
  b : isLabel l = true
  n : l.length ≤ 20
def TgOk (t : Tx) : Prop := t = EX ∨ LabOk2 t
theorem wdEx : WordOk EX := ⟨EX, by decide, by decide, by decide, .inl rfl⟩
theorem TgOk.w {t : Tx} (h : TgOk t) : WordOk t := by
  rcases h with rfl | h
  · exact wdEx
  · exact h.w
theorem TgOk.n {t : Tx} (h : TgOk t) : t.length ≤ 20 := by
  rcases h with rfl | h
  · decide
  · exact h.n
structure DdOk (d : Dd) : Prop where
  ex : ExOk d.ex
  ht : d.ex.ht ≤ 10
  v : ∀ v e, d = .set v e → VarOk v
def ddTk : Dd → List Tk
  | .set v e => .w v :: .y 61 :: toks 0 e
  | .prt e => .w (tx "print") :: toks 0 e
  | .cnd e => .w (tx "if") :: toks 0 e
theorem wordOk_let {w : Tx} (h0 : w ≠ []) (h1 : w.length ≤ 8) (h2 : ∀ c ∈ w, c ∈ LET) : WordOk w := ⟨w, h0, h1, h2, .inl rfl⟩
theorem ddTx_lex {d : Dd} (h : DdOk d) : lex (ddTx d) = some ((ddTk d).map Tk.D) := by
  cases d with
  | set v e =>
    have hv := h.v v e rfl
    have e1 : ddTx (.set v e) = v ++ 32 :: (61 :: 32 :: txt 0 e) := by
      show v ++ tx " = " ++ txt 0 e = _
      rw [show tx " = " = [32, 61, 32] from rfl]; simp
    rw [e1, lex_ww (wordOk_let hv.1 hv.2.1 hv.2.2.1), lex_sym (by decide), lex_space, lex_text (e := e) h.ex]
    rfl
  | prt e =>
    have e1 : ddTx (.prt e) = tx "print" ++ 32 :: txt 0 e := by
      show tx "print" ++ tx " " ++ txt 0 e = _
      rw [show tx " " = [32] from rfl]; simp
    rw [e1, lex_ww (wordOk_let (by decide) (by decide) (by decide)), lex_text (e := e) h.ex]
    rfl
  | cnd e =>
    have e1 : ddTx (.cnd e) = tx "if" ++ 32 :: txt 0 e := by
      show tx "if" ++ tx " " ++ txt 0 e = _
      rw [show tx " " = [32] from rfl]; simp
    rw [e1, lex_ww (wordOk_let (by decide) (by decide) (by decide)), lex_text (e := e) h.ex]
    rfl
theorem pdep_20 {e : Ex} (h : e.ht ≤ 10) : pdep 0 e ≤ 20 := by have := pdep_le e 0; omega
theorem varNotKw {v : Tx} (h : isName v = true) : ¬ v ∈ KWS := by
  unfold isName at h
  rw [Bool.and_eq_true] at h
  simpa using h.2
structure NdOk2 (n : Nd) : Prop where
  l : LabOk2 n.l
  d : DdOk n.d
  t : (n.d.isC = true ∧ ∃ a b, n.t = [a, b]) ∨ (n.d.isC = false ∧ ∃ a, n.t = [a])
  lt : ∀ t ∈ n.t, TgOk t
theorem NdOk2.ok {n : Nd} (h : NdOk2 n) : NdOk n := ⟨h.d.ex, h.d.ht, h.t, fun t ht => (h.lt t ht).n, h.l.n, fun v e z => Nat.le_trans (h.d.v v e z).2.1 (by decide)⟩
theorem wElse : WordOk (tx "else") := wordOk_let (by decide) (by decide) (by decide)
/-- the same by another text of equal signs -/
theorem LineIs.lex {α : Type} {p : List Tk → Option α} {l u : Tx} {x : α} (h : LineIs p l x) (e : lex u = lex l) : LineIs p u x := by
  obtain ⟨tk, h1, h2⟩ := h
  exact ⟨tk, e.trans h1, h2⟩
end QL
namespace QL
open PySem PySem.Spec PyProof.Rows L2
/-! ### drawn labels -/
def L25 : Tx := tx "abcdefghijklmnoprstuvwxyz"
def LabK (i : Nat) (l : Tx) : Prop := ∃ c, L25[i]? = some c ∧ (l = [c] ∨ (∃ m : Nat, 2 ≤ m ∧ m ≤ 98 ∧ l = [c] ++ 46 :: numT m) ∨ ∃ v : Tx, v.length ≤ 5 ∧ (∀ c ∈ v, c ∈ LET) ∧ l = [c] ++ (v ++ [113]))
theorem l25_let {c : Nat} (h : c ∈ L25) : c ∈ LET := by
  have : ∀ c ∈ L25, c ∈ LET := by decide
  exact this c h
theorem kws_q : ∀ k ∈ KWS, k.getLast? ≠ some 113 ∧ 2 ≤ k.length := by decide
theorem let_46 {c : Nat} (h : c ∈ LET) : c ≠ 46 := (let_other h).2.1
theorem tw_all {l : Tx} (h : ∀ c ∈ l, c ∈ LET) : l.takeWhile (fun a => a != 46) = l := by
  induction l with
  | nil => rfl
  | cons c l ih =>
    rw [List.takeWhile_cons_of_pos (by simpa using let_46 (h c (by simp))), ih fun x hx => h x (List.mem_cons_of_mem _ hx)]
theorem name_let {l : Tx} (h : ∀ c ∈ l, c ∈ LET) (k : ¬ l ∈ KWS) : isName l = true := by
  unfold isName
  rw [Bool.and_eq_true, decide_eq_true_iff, decide_eq_true_iff]
  exact ⟨fun m => let_46 (h 46 m) rfl, k⟩
theorem LabK.ok {i : Nat} {l : Tx} (h : LabK i l) : LabOk2 l := by
  obtain ⟨c, hc, h⟩ := h
  have cL : c ∈ LET := l25_let (List.mem_of_getElem? hc)
  have c1 : ∀ x ∈ [c], x ∈ LET := fun x hx => by rw [List.mem_singleton.mp hx]; exact cL
  have k1 : ¬ [c] ∈ KWS := fun m => by have := (kws_q _ m).2; simp at this
  rcases h with rfl | ⟨m, m1, m2, rfl⟩ | ⟨v, vl, vL, rfl⟩
  · exact ⟨wordOk_let (by simp) (by simp) c1, by unfold isLabel; rw [tw_all c1]; exact name_let c1 k1, by simp⟩
  · have wk : WordOk ([c] ++ 46 :: numT m) := ⟨[c], by simp, by simp, c1, .inr ⟨m, m1, by omega, rfl⟩⟩
    refine ⟨wk, ?_, Nat.le_trans wk.len (by decide)⟩
    unfold isLabel
    have e : ([c] ++ 46 :: numT m).takeWhile (fun a => a != 46) = [c] := by
      show (c :: 46 :: numT m).takeWhile (fun a => a != 46) = _
      rw [List.takeWhile_cons_of_pos (by simpa using let_46 cL), List.takeWhile_cons_of_neg (by simp)]
    rw [e]; exact name_let c1 k1
  · have all : ∀ x ∈ [c] ++ (v ++ [113]), x ∈ LET := fun x hx => by
      rcases List.mem_append.mp hx with h | h
      · exact c1 x h
      · rcases List.mem_append.mp h with h | h
        · exact vL x h
        · rw [List.mem_singleton.mp h]; decide
    have nk : ¬ ([c] ++ (v ++ [113])) ∈ KWS := fun m => (kws_q _ m).1 (by rw [← List.append_assoc, List.getLast?_append]; rfl)
    refine ⟨wordOk_let (by simp) (by simp; omega) all, ?_, by simp; omega⟩
    unfold isLabel
    rw [tw_all all]; exact name_let all nk
theorem LabK.hd {i : Nat} {l : Tx} (h : LabK i l) : l.head? = L25[i]? := by
  obtain ⟨c, hc, h⟩ := h
  rw [hc]
  rcases h with rfl | ⟨m, m1, m2, rfl⟩ | ⟨v, vl, vL, rfl⟩ <;> rfl
theorem l25_nodup : L25.Nodup := by decide
theorem LabK.one {i j : Nat} {l : Tx} (h : LabK i l) (k : LabK j l) : i = j := by
  have e : L25[i]? = L25[j]? := h.hd.symm.trans k.hd
  obtain ⟨c, hc, _⟩ := h
  rw [hc] at e
  obtain ⟨hi, ei⟩ := List.getElem?_eq_some_iff.mp hc
  obtain ⟨hj, ej⟩ := List.getElem?_eq_some_iff.mp e.symm
  rcases Nat.lt_trichotomy i j with h | h | h
  · exact absurd (ei.trans ej.symm) (List.pairwise_iff_getElem.mp l25_nodup i j hi hj h)
  · exact h
  · exact absurd (ej.trans ei.symm) (List.pairwise_iff_getElem.mp l25_nodup j i hj hi h)
/-- the first labels, in order -/
def LabsOk (ls : List Tx) : Prop := ∀ i l, ls[i]? = some l → LabK i l
theorem LabsOk.add {ls : List Tx} {l : Tx} (h : LabsOk ls) (k : LabK ls.length l) : LabsOk (ls ++ [l]) := by
  intro i x hx
  by_cases hi : i < ls.length
  · rw [List.getElem?_append_left hi] at hx
    exact h i x hx
  · rw [List.getElem?_append_right (by omega)] at hx
    have : i - ls.length = 0 := by
      have := (List.getElem?_eq_some_iff.mp hx).1
      simp at this; omega
    have ei : i = ls.length := by omega
    subst ei
    rw [Nat.sub_self] at hx
    cases hx
    exact k
end QL
namespace QL
open PySem PySem.Spec PyProof.Rows L2
/-! ### targets by label -/
/-! ### the targets of what is finished are seen -/
theorem Ord.one {e : Tx} {ns : List Nd} {f g : List Tx} (h : Ord e ns f) (k : Ord e ns g) : f = g := by
  obtain ⟨d, n, s', a, _⟩ := h.all
  obtain ⟨d', n', s'', b, _⟩ := k.all
  exact (a.one b).2
end QL
namespace QL
open PySem PySem.Spec PyProof.Rows L2
/-! ### rows made of lines -/
theorem lex_10 (b : Tx) : lex (10 :: b) = none := by
  rw [lex_cons]
  have : lex1 10 b = none := by
    unfold lex1
    rw [if_neg (by decide), if_neg (by decide), if_neg (by decide), if_neg (by decide)]
  rw [this]
theorem lex_no10 {l : Tx} {r : List D} (h : lex l = some r) : ¬ (10 : Nat) ∈ l := by
  intro m
  obtain ⟨a, b, rfl⟩ := List.append_of_mem m
  rw [lex_at (x := 10) ⟨by decide, by decide, by decide⟩, lex_10] at h
  cases e : lex a with
  | none => rw [e] at h; cases h
  | some t => rw [e] at h; cases h
theorem LineIs.no10 {α : Type} {p : List Tk → Option α} {l : Tx} {x : α} (h : LineIs p l x) : ¬ (10 : Nat) ∈ l := by
  obtain ⟨_, h, _⟩ := h
  exact lex_no10 h
theorem bl_no10 {r : Tx} (h : isBl r = true) : ¬ (10 : Nat) ∈ r := fun m => by
  unfold isBl at h
  rw [List.all_eq_true] at h
  have := h 10 m
  simp [sp32] at this
theorem bl_rep (n : Nat) : isBl (List.replicate n 32) = true := by
  unfold isBl
  rw [List.all_eq_true]
  intro c hc
  rw [(List.mem_replicate.mp hc).2]; rfl
theorem joinN_len {c m : Nat} : ∀ {ws : List Tx}, (∀ x ∈ ws, x.length ≤ m) → (joinT [c] ws).length ≤ ws.length * (m + 1)
  | [], _ => by simp [joinT]
  | [x], h => by have := h x (by simp); simp [joinT]; omega
  | x :: y :: r, h => by
    have h1 := h x (by simp)
    have h2 := joinN_len (c := c) (ws := y :: r) fun z hz => h z (List.mem_cons_of_mem _ hz)
    simp only [joinT, List.length_append, List.length_cons, List.length_nil, Nat.succ_mul] at h2 ⊢
    omega
theorem sum_len {m : Nat} : ∀ {ws : List Tx}, (∀ x ∈ ws, x.length ≤ m) → (ws.map (·.length)).sum ≤ ws.length * m
  | [], _ => by simp
  | x :: r, h => by
    have h1 := h x (by simp)
    have h2 := sum_len (ws := r) fun z hz => h z (List.mem_cons_of_mem _ hz)
    simp only [List.map_cons, List.sum_cons, List.length_cons, Nat.succ_mul]
    omega
inductive Spr : List Tx → List Tx → Prop where
  | nil : Spr [] []
  | bl {r : Tx} {rs ls : List Tx} (h : isBl r = true) (t : Spr ls rs) : Spr ls (r :: rs)
  | ln {r l : Tx} {rs ls : List Tx} (h : lex r = lex l) (t : Spr ls rs) : Spr (l :: ls) (r :: rs)
theorem Spr.snoc_bl {ls rs : List Tx} {r : Tx} (h : Spr ls rs) (b : isBl r = true) : Spr ls (rs ++ [r]) := by
  induction h with
  | nil => exact .bl b .nil
  | bl h _ ih => exact .bl h ih
  | ln h _ ih => exact .ln h ih
theorem Spr.snoc_ln {ls rs : List Tx} {r l : Tx} (h : Spr ls rs) (b : lex r = lex l) : Spr (ls ++ [l]) (rs ++ [r]) := by
  induction h with
  | nil => exact .ln b .nil
  | bl h _ ih => exact .bl h ih
  | ln h _ ih => exact .ln h ih
theorem Spr.self : ∀ ls : List Tx, Spr ls ls
  | [] => .nil
  | _ :: ls => .ln rfl (Spr.self ls)
/-! ### lengths of lines, for expressions of a small height -/
theorem ddTx_len4 {d : Dd} {m : Nat} (he : ExOk d.ex) (hh : d.ex.ht ≤ m) (hv : ∀ v e, d = .set v e → v.length ≤ 20) : (ddTx d).length ≤ 15 * 2 ^ m + 25 := by
  have t := txt_len d.ex 0 he
  have p : 2 ^ d.ex.ht ≤ 2 ^ m := Nat.pow_le_pow_right (by decide) hh
  have l1 : (tx " = ").length = 3 := rfl
  have l2 : (tx "print").length = 5 := rfl
  have l3 : (tx "if").length = 2 := rfl
  have l4 : (tx " ").length = 1 := rfl
  cases d with
  | set v e =>
    have := hv v e rfl
    have t : (txt 0 e).length + 5 ≤ 15 * 2 ^ e.ht := t
    have p : 2 ^ e.ht ≤ 2 ^ m := p
    simp only [ddTx, List.length_append]; omega
  | prt e =>
    have t : (txt 0 e).length + 5 ≤ 15 * 2 ^ e.ht := t
    have p : 2 ^ e.ht ≤ 2 ^ m := p
    simp only [ddTx, List.length_append]; omega
  | cnd e =>
    have t : (txt 0 e).length + 5 ≤ 15 * 2 ^ e.ht := t
    have p : 2 ^ e.ht ≤ 2 ^ m := p
    simp only [ddTx, List.length_append]; omega
end QL
namespace QL
open PySem PySem.Spec PyProof.Rows L2
/-! ### the reachable nodes alone -/
end QL
namespace QL
open PySem PySem.Spec PyProof.Rows L2
/-! ### what paths reach without a label; dominators -/
inductive Rch (G : Tx → List Tx) (a e : Tx) : Tx → Prop where
  | base (h1 : e ≠ EX) (h2 : e ≠ a) : Rch G a e e
  | step {x y : Tx} (h : Rch G a e x) (t : y ∈ G x) (h1 : y ≠ EX) (h2 : y ≠ a) : Rch G a e y
theorem Rch.ne {G : Tx → List Tx} {a e x : Tx} (h : Rch G a e x) : x ≠ EX ∧ x ≠ a := by
  cases h with
  | base h1 h2 => exact ⟨h1, h2⟩
  | step _ _ h1 h2 => exact ⟨h1, h2⟩
structure RI (G : Tx → List Tx) (a e : Tx) (L s wt : List Tx) : Prop where
  snd : ∀ x ∈ s, Rch G a e x
  sw : ∀ w ∈ wt, w = EX ∨ w = a ∨ Rch G a e w
  wL : ∀ w ∈ wt, w = EX ∨ w ∈ L
  sL : ∀ x ∈ s, x ∈ L
  c0 : e = EX ∨ e = a ∨ e ∈ s ∨ e ∈ wt
  cv : ∀ x ∈ s, ∀ y ∈ G x, y = EX ∨ y = a ∨ y ∈ s ∨ y ∈ wt
theorem RI.init {G : Tx → List Tx} {a e : Tx} {L : List Tx} (h : e = EX ∨ e ∈ L) : RI G a e L [] [e] := by
  refine ⟨fun x h => (nomatch h), fun w hw => ?_, fun w hw => ?_, fun x h => (nomatch h), .inr (.inr (.inr (by simp))), fun x h => (nomatch h)⟩
  · rw [List.mem_singleton.mp hw]
    by_cases h1 : e = EX
    · exact .inl h1
    · by_cases h2 : e = a
      · exact .inr (.inl h2)
      · exact .inr (.inr (.base h1 h2))
  · rw [List.mem_singleton.mp hw]; exact h
theorem RI.skip {G : Tx → List Tx} {a e w : Tx} {L s wt : List Tx} (h : RI G a e L s (wt ++ [w])) (k : w = EX ∨ w = a ∨ w ∈ s) : RI G a e L s wt := by
  have red : ∀ y, (y = EX ∨ y = a ∨ y ∈ s ∨ y ∈ wt ++ [w]) → (y = EX ∨ y = a ∨ y ∈ s ∨ y ∈ wt) := by
    rintro y (z | z | z | z)
    · exact .inl z
    · exact .inr (.inl z)
    · exact .inr (.inr (.inl z))
    · rcases List.mem_append.mp z with z | z
      · exact .inr (.inr (.inr z))
      · rw [List.mem_singleton.mp z]
        rcases k with k | k | k
        · exact .inl k
        · exact .inr (.inl k)
        · exact .inr (.inr (.inl k))
  exact ⟨h.snd, fun x hx => h.sw x (List.mem_append_left _ hx), fun x hx => h.wL x (List.mem_append_left _ hx), h.sL, red _ h.c0, fun x hx y hy => red _ (h.cv x hx y hy)⟩
theorem RI.add {G : Tx → List Tx} {a e w : Tx} {L s wt : List Tx} (c : Closed G L) (h : RI G a e L s (wt ++ [w])) (h1 : w ≠ EX) (h2 : w ≠ a) : RI G a e L (s ++ [w]) (wt ++ G w) := by
  have rw_ : Rch G a e w := ((h.sw w (by simp)).resolve_left h1).resolve_left h2
  have wl : w ∈ L := (h.wL w (by simp)).resolve_left h1
  have red : ∀ y, (y = EX ∨ y = a ∨ y ∈ s ∨ y ∈ wt ++ [w]) → (y = EX ∨ y = a ∨ y ∈ s ++ [w] ∨ y ∈ wt ++ G w) := by
    rintro y (z | z | z | z)
    · exact .inl z
    · exact .inr (.inl z)
    · exact .inr (.inr (.inl (List.mem_append_left _ z)))
    · rcases List.mem_append.mp z with z | z
      · exact .inr (.inr (.inr (List.mem_append_left _ z)))
      · exact .inr (.inr (.inl (List.mem_append_right _ z)))
  refine ⟨fun x hx => ?_, fun x hx => ?_, fun x hx => ?_, fun x hx => ?_, red _ h.c0, fun x hx y hy => ?_⟩
  · rcases List.mem_append.mp hx with z | z
    · exact h.snd x z
    · rw [List.mem_singleton.mp z]; exact rw_
  · rcases List.mem_append.mp hx with z | z
    · exact h.sw x (List.mem_append_left _ z)
    · by_cases x1 : x = EX
      · exact .inl x1
      · by_cases x2 : x = a
        · exact .inr (.inl x2)
        · exact .inr (.inr (.step rw_ z x1 x2))
  · rcases List.mem_append.mp hx with z | z
    · exact h.wL x (List.mem_append_left _ z)
    · exact c w wl x z
  · rcases List.mem_append.mp hx with z | z
    · exact h.sL x z
    · rw [List.mem_singleton.mp z]; exact wl
  · rcases List.mem_append.mp hx with z | z
    · exact red _ (h.cv x z y hy)
    · rw [List.mem_singleton.mp z] at hy
      exact .inr (.inr (.inr (List.mem_append_right _ hy)))
/-- walks all of whose labels are as P says -/
inductive Wk (G : Tx → List Tx) (P : Tx → Prop) : Tx → Tx → Prop where
  | base {x : Tx} (h : P x) : Wk G P x x
  | cons {t y x : Tx} (h : P t) (m : y ∈ G t) (k : Wk G P y x) : Wk G P t x
theorem Wk.hd {G : Tx → List Tx} {P : Tx → Prop} {t x : Tx} (k : Wk G P t x) : P t := by
  cases k with
  | base p => exact p
  | cons p _ _ => exact p
end QL
namespace QL
open PySem PySem.Spec PyProof.Rows L2
inductive Sm where
  | node (l : Tx) (d : Dd)
  | cond (l : Tx) (e : Ex) (a b : List Sm)
  | scope (lp : Bool) (n : Tx) (b : List Sm)
  | jump (c : Bool) (n : Tx)
  | exit
def scW (lp : Bool) : Tx := if lp then tx "loop" else tx "block"
def jmW (c : Bool) : Tx := if c then tx "continue" else tx "break"
mutual
def Sm.D : Sm → QL.D
  | .node l d => .tup [.str (tx "node"), .str l, d.D]
  | .cond l e a b => .tup [.str (tx "if"), .str l, e.D, .tup (smD a), .tup (smD b)]
  | .scope lp n b => .tup [.str (scW lp), .str n, .tup (smD b)]
  | .jump c n => .tup [.str (jmW c), .str n]
  | .exit => .tup [.str (tx "exit")]
def smD : List Sm → List QL.D
  | [] => []
  | s :: r => s.D :: smD r
end
theorem smD_app : ∀ a b : List Sm, smD (a ++ b) = smD a ++ smD b
  | [], _ => rfl
  | s :: r, b => by show s.D :: smD (r ++ b) = _; rw [smD_app r b]; rfl
theorem smD_map : ∀ a : List Sm, smD a = a.map Sm.D
  | [] => rfl
  | s :: r => by show s.D :: smD r = _; rw [smD_map r]; rfl
inductive Hd where
  | cond (l : Tx) (e : Ex)
  | scope (lp : Bool) (n : Tx)
def Hd.D : Hd → List QL.D
  | .cond l e => [.str (tx "if"), .str l, e.D]
  | .scope lp n => [.str (scW lp), .str n]
inductive Lk where
  | stm (s : Sm) | opn (h : Hd) | els | cls
def Lk.D : Lk → QL.D
  | .stm s => .tup [.str (tx "statement"), s.D]
  | .opn h => .tup [.str (tx "open"), .tup h.D]
  | .els => .tup [.str (tx "else")]
  | .cls => .tup [.str (tx "close")]
mutual
def flatS : Sm → List Lk
  | .node l d => [.stm (.node l d)]
  | .cond l e a b => .opn (.cond l e) :: (flatL a ++ ((match b with | [] => [] | s :: r => .els :: (flatS s ++ flatL r)) ++ [.cls]))
  | .scope lp n b => .opn (.scope lp n) :: (flatL b ++ [.cls])
  | .jump c n => [.stm (.jump c n)]
  | .exit => [.stm .exit]
def flatL : List Sm → List Lk
  | [] => []
  | s :: r => flatS s ++ flatL r
end
structure Fr where
  h : Option Hd
  t : Option (List Sm)
  b : List Sm
def closeS : Hd → Option (List Sm) → List Sm → Sm
  | .cond l e, none, b => .cond l e b []
  | .cond l e, some a, b => .cond l e a b
  | .scope lp n, _, b => .scope lp n b
def step : List Fr → Lk → Option (List Fr)
  | ⟨h, t, b⟩ :: r, .stm s => some (⟨h, t, b ++ [s]⟩ :: r)
  | f :: r, .opn h => if (f :: r).length ≤ 60 then some (⟨some h, none, []⟩ :: f :: r) else none
  | ⟨some (.cond l e), none, b⟩ :: f :: r, .els => some (⟨some (.cond l e), some b, []⟩ :: f :: r)
  | ⟨some h, t, b⟩ :: ⟨h2, t2, b2⟩ :: r, .cls => some (⟨h2, t2, b2 ++ [closeS h t b]⟩ :: r)
  | _, _ => none
def runL : List Fr → List Lk → Option (List Fr)
  | fs, [] => some fs
  | fs, k :: ks => (step fs k).bind fun gs => runL gs ks
mutual
def Sm.nest : Sm → Nat
  | .cond _ _ a b => 1 + max (nestL a) (nestL b)
  | .scope _ _ b => 1 + nestL b
  | _ => 0
def nestL : List Sm → Nat
  | [] => 0
  | s :: r => max s.nest (nestL r)
end
mutual
theorem run_S : ∀ (s : Sm) (h : Option Hd) (t : Option (List Sm)) (b : List Sm) (r : List Fr) (ks : List Lk), r.length + s.nest ≤ 60 → runL (⟨h, t, b⟩ :: r) (flatS s ++ ks) = runL (⟨h, t, b ++ [s]⟩ :: r) ks
  | .node l d, h, t, b, r, ks, _ => rfl
  | .jump c n, h, t, b, r, ks, _ => rfl
  | .exit, h, t, b, r, ks, _ => rfl
  | .scope lp n c, h, t, b, r, ks, hn => by
    have hn : r.length + (1 + nestL c) ≤ 60 := hn
    show runL (⟨h, t, b⟩ :: r) (.opn (.scope lp n) :: (flatL c ++ [.cls]) ++ ks) = _
    rw [List.cons_append, List.append_assoc]
    show (step (⟨h, t, b⟩ :: r) (.opn (.scope lp n))).bind _ = _
    have e1 : step (⟨h, t, b⟩ :: r) (.opn (.scope lp n)) = some (⟨some (.scope lp n), none, []⟩ :: ⟨h, t, b⟩ :: r) := if_pos (by simp only [List.length_cons]; omega)
    rw [e1, Option.bind_some, run_L c _ _ _ _ _ (by simp only [List.length_cons]; omega)]
    rfl
  | .cond l e a c, h, t, b, r, ks, hn => by
    have hn : r.length + (1 + max (nestL a) (nestL c)) ≤ 60 := hn
    have e1 : step (⟨h, t, b⟩ :: r) (.opn (.cond l e)) = some (⟨some (.cond l e), none, []⟩ :: ⟨h, t, b⟩ :: r) := if_pos (by simp only [List.length_cons]; omega)
    cases c with
    | nil =>
      show runL (⟨h, t, b⟩ :: r) (.opn (.cond l e) :: (flatL a ++ ([] ++ [.cls])) ++ ks) = _
      rw [List.cons_append, List.append_assoc]
      show (step (⟨h, t, b⟩ :: r) (.opn (.cond l e))).bind _ = _
      rw [e1, Option.bind_some, run_L a _ _ _ _ _ (by simp only [List.length_cons]; omega)]
      rfl
    | cons s c =>
      have hn : r.length + (1 + max (nestL a) (max s.nest (nestL c))) ≤ 60 := hn
      show runL (⟨h, t, b⟩ :: r) (.opn (.cond l e) :: (flatL a ++ (.els :: (flatS s ++ flatL c) ++ [.cls])) ++ ks) = _
      rw [List.cons_append, List.append_assoc]
      show (step (⟨h, t, b⟩ :: r) (.opn (.cond l e))).bind _ = _
      rw [e1, Option.bind_some, run_L a _ _ _ _ _ (by simp only [List.length_cons]; omega)]
      rw [List.cons_append, List.cons_append, List.append_assoc, List.append_assoc]
      show runL (⟨some (.cond l e), some ([] ++ a), []⟩ :: ⟨h, t, b⟩ :: r) (flatS s ++ (flatL c ++ ([.cls] ++ ks))) = _
      rw [run_S s _ _ _ _ _ (by simp only [List.length_cons]; omega), run_L c _ _ _ _ _ (by simp only [List.length_cons]; omega)]
      rfl
theorem run_L : ∀ (c : List Sm) (h : Option Hd) (t : Option (List Sm)) (b : List Sm) (r : List Fr) (ks : List Lk), r.length + nestL c ≤ 60 → runL (⟨h, t, b⟩ :: r) (flatL c ++ ks) = runL (⟨h, t, b ++ c⟩ :: r) ks
  | [], h, t, b, r, ks, _ => by rw [List.append_nil]; rfl
  | s :: c, h, t, b, r, ks, hn => by
    have hn : r.length + max s.nest (nestL c) ≤ 60 := hn
    show runL (⟨h, t, b⟩ :: r) (flatS s ++ flatL c ++ ks) = _
    rw [List.append_assoc, run_S s _ _ _ _ _ (by omega), run_L c _ _ _ _ _ (by omega), List.append_assoc]
    rfl
end
theorem run_body {b : List Sm} (h : nestL b ≤ 60) : runL [⟨none, none, []⟩] (flatL b) = some [⟨none, none, b⟩] := by
  have := run_L b none none [] [] [] (by simpa using h)
  rw [List.append_nil] at this
  rw [this]; rfl
def indT (d : Nat) : Tx := List.replicate (2 * d) 32
mutual
def smT (d : Nat) : Sm → List Tx
  | .node l dd => [indT d ++ (l ++ tx ": " ++ ddTx dd)]
  | .cond l e a b => (indT d ++ (l ++ tx ": if " ++ txt 0 e ++ tx " {")) :: (smLT (d + 1) a ++ ((match b with | [] => [] | s :: r => (indT d ++ tx "} else {") :: (smT (d + 1) s ++ smLT (d + 1) r)) ++ [indT d ++ tx "}"]))
  | .scope lp n b => (indT d ++ (scW lp ++ tx " " ++ n ++ tx " {")) :: (smLT (d + 1) b ++ [indT d ++ tx "}"])
  | .jump c n => [indT d ++ (jmW c ++ tx " " ++ n)]
  | .exit => [indT d ++ tx "exit"]
def smLT (d : Nat) : List Sm → List Tx
  | [] => []
  | s :: r => smT d s ++ smLT d r
end
theorem smLT_app (d : Nat) : ∀ a b : List Sm, smLT d (a ++ b) = smLT d a ++ smLT d b
  | [], _ => rfl
  | s :: r, b => by show smT d s ++ smLT d (r ++ b) = _; rw [smLT_app d r b]; show _ = smT d s ++ smLT d r ++ smLT d b; rw [List.append_assoc]
def endP (x : Option (Lk × List Tk)) : Option Lk := x.bind fun y => if y.2 = [] then some y.1 else none
def labdR (l : Tx) : Dd × List Tk → Option (Lk × List Tk)
  | (.cnd e, r) => (expP (.y 123) r).map fun r => (.opn (.cond l e), r)
  | (d, r) => some (.stm (.node l d), r)
def labdP (ts : List Tk) : Option (Lk × List Tk) := (lblP ts).bind fun l => (expP (.y 58) l.2).bind fun r1 => (deedP r1).bind (labdR l.1)
def wordP (ts : List Tk) : Option (Lk × List Tk) := match ts with
  | .w v :: r => if v = tx "exit" then some (.stm .exit, r)
    else if v = tx "break" ∨ v = tx "continue" then (lblP r).map fun l => (.stm (.jump (decide (v = tx "continue")) l.1), l.2)
    else if v = tx "block" ∨ v = tx "loop" then (lblP r).bind fun l => (expP (.y 123) l.2).map fun r2 => (.opn (.scope (decide (v = tx "loop")) l.1), r2)
    else none
  | _ => none
def WDS : List Tx := [tx "exit", tx "break", tx "continue", tx "block", tx "loop"]
def isWd : List Tk → Bool
  | .w v :: _ => decide (v ∈ WDS)
  | _ => false
def lineP (ts : List Tk) : Option Lk :=
  if ts.head? = some (.y 125) then
    (if ts.tail.head? = some (.w (tx "else")) then endP ((expP (.y 123) ts.tail.tail).map fun r => (.els, r)) else endP (some (.cls, ts.tail)))
  else if isWd ts = true then endP (wordP ts)
  else endP (labdP ts)
mutual
def SmOk : Sm → Prop
  | .node l d => LabOk2 l ∧ DdOk d ∧ d.isC = false ∧ d.ex.ht ≤ 4
  | .cond l e a b => LabOk2 l ∧ ExOk e ∧ e.ht ≤ 4 ∧ SmsOk a ∧ SmsOk b
  | .scope _ n b => LabOk2 n ∧ SmsOk b
  | .jump _ n => LabOk2 n
  | .exit => True
def SmsOk : List Sm → Prop
  | [] => True
  | s :: r => SmOk s ∧ SmsOk r
end
theorem SmsOk.app : ∀ {a b : List Sm}, SmsOk a → SmsOk b → SmsOk (a ++ b)
  | [], _, _, h => h
  | _ :: _, _, h, k => ⟨h.1, SmsOk.app h.2 k⟩
theorem lex_ind (d : Nat) (r : Tx) : lex (indT d ++ r) = lex r := lex_spaces _ _
theorem lblP_ok {l : Tx} {r : List Tk} (h : LabOk2 l) : lblP (.w l :: r) = some (l, r) := if_pos h.b
theorem lab_notWd {l : Tx} (h : LabOk2 l) : ¬ l ∈ WDS := by
  intro m
  have key : ∀ w ∈ WDS, isLabel w = false := by decide +kernel
  have := key l m
  rw [h.b] at this; cases this
end QL
namespace QL
open PySem PySem.Spec PyProof.Rows L2
/-! ### the lines of a body are what they say -/
theorem exprP_at {e : Ex} (he : ExOk e) (hh : e.ht ≤ 10) {r : List Tk} (hn : NoOp [42, 43, 45, 61, 60] r) : exprP (toks 0 e ++ r) = some (e, r) := by
  have g := der_got (toks_der e 0 (by decide) he) 20 r (pdep_20 hh) (by omega) hn
  unfold exprP
  rw [g]; rfl
theorem expP_hd (t : Tk) (r : List Tk) : expP t (t :: r) = some r := by simp only [expP, if_true]
theorem deedP_at {d : Dd} (h : DdOk d) {r : List Tk} (hn : NoOp [42, 43, 45, 61, 60] r) : deedP (ddTk d ++ r) = some (d, r) := by
  cases d with
  | set v e =>
    have hv := h.v v e rfl
    have nk := varNotKw hv.2.2.2
    have n1 : v ≠ tx "print" := fun z => nk (by rw [z]; decide)
    have n2 : v ≠ tx "if" := fun z => nk (by rw [z]; decide)
    unfold deedP
    show (if (some (Tk.w v)) = some (.w (tx "print")) then _ else if (some (Tk.w v)) = some (.w (tx "if")) then _ else _) = _
    rw [if_neg (by simpa using n1), if_neg (by simpa using n2)]
    have e1 : namP (.w v :: .y 61 :: (toks 0 e ++ r)) = some (v, .y 61 :: (toks 0 e ++ r)) := if_pos hv.2.2.2
    show (namP (.w v :: .y 61 :: (toks 0 e ++ r))).bind _ = _
    simp only [e1, Option.bind_some, expP_hd, exprP_at (e := e) h.ex h.ht hn, Option.map_some]
  | prt e =>
    unfold deedP
    show (if (some (Tk.w (tx "print"))) = some (.w (tx "print")) then _ else _) = _
    rw [if_pos rfl]
    show (exprP (toks 0 e ++ r)).map _ = _
    rw [exprP_at (e := e) h.ex h.ht hn]; rfl
  | cnd e =>
    unfold deedP
    show (if (some (Tk.w (tx "if"))) = some (.w (tx "print")) then _ else if (some (Tk.w (tx "if"))) = some (.w (tx "if")) then _ else _) = _
    rw [if_neg (by decide), if_pos rfl]
    show (exprP (toks 0 e ++ r)).map _ = _
    rw [exprP_at (e := e) h.ex h.ht hn]; rfl
theorem lineP_lab {l : Tx} {r : List Tk} (h : LabOk2 l) : lineP (.w l :: r) = endP (labdP (.w l :: r)) := by
  unfold lineP
  rw [if_neg (by simp)]
  have : isWd (.w l :: r) = false := by simpa [isWd] using lab_notWd h
  rw [this]; rfl
theorem lineP_wd {v : Tx} {r : List Tk} (h : v ∈ WDS) : lineP (.w v :: r) = endP (wordP (.w v :: r)) := by
  unfold lineP
  rw [if_neg (by simp)]
  have : isWd (.w v :: r) = true := by simpa [isWd] using h
  rw [this]; rfl
theorem ln_node {l : Tx} {d : Dd} (h : LabOk2 l) (hd : DdOk d) (c : d.isC = false) : LineIs lineP (l ++ tx ": " ++ ddTx d) (.stm (.node l d)) := by
  refine ⟨.w l :: .y 58 :: ddTk d, ?_, ?_⟩
  · have e1 : l ++ tx ": " ++ ddTx d = l ++ 58 :: (32 :: ddTx d) := by rw [show tx ": " = [58, 32] from rfl]; simp
    rw [e1, lex_wy h.w (by decide), lex_space, ddTx_lex hd]; rfl
  · have q := deedP_at hd (r := []) noOp_nil
    rw [List.append_nil] at q
    rw [lineP_lab h]
    unfold labdP
    simp only [lblP_ok h, Option.bind_some, expP_hd, q]
    cases d with
    | cnd e => cases c
    | set v e => rfl
    | prt e => rfl
theorem ln_cond {l : Tx} {e : Ex} (h : LabOk2 l) (he : ExOk e) (hh : e.ht ≤ 4) : LineIs lineP (l ++ tx ": if " ++ txt 0 e ++ tx " {") (.opn (.cond l e)) := by
  have hd : DdOk (.cnd e) := ⟨he, by show e.ht ≤ 10; omega, fun v x z => by cases z⟩
  refine ⟨.w l :: .y 58 :: (ddTk (.cnd e) ++ [.y 123]), ?_, ?_⟩
  · have e1 : l ++ tx ": if " ++ txt 0 e ++ tx " {" = l ++ 58 :: (32 :: (ddTx (.cnd e) ++ 32 :: [123])) := by
      show _ = l ++ 58 :: (32 :: ((tx "if" ++ tx " " ++ txt 0 e) ++ 32 :: [123]))
      rw [show tx ": if " = 58 :: 32 :: (tx "if" ++ tx " ") from rfl, show tx " {" = [32, 123] from rfl]
      simp only [List.append_assoc, List.cons_append]
    have l3 : lex ([123] : Tx) = some [dY 123] := by rw [lex_sym (by decide)]; rfl
    rw [e1, lex_wy h.w (by decide), lex_space, lex_split, ddTx_lex hd, l3]
    simp only [Option.map_some, Option.bind_some, List.map_cons, List.map_append, List.map_nil]
    rfl
  · have q := deedP_at hd (r := [.y 123]) (noOp_y (by decide))
    rw [lineP_lab h]
    unfold labdP
    simp only [lblP_ok h, Option.bind_some, expP_hd, q]
    show endP ((expP (.y 123) [.y 123]).map _) = _
    rw [expP_hd]; rfl
theorem ln_scope {lp : Bool} {n : Tx} (h : LabOk2 n) : LineIs lineP (scW lp ++ tx " " ++ n ++ tx " {") (.opn (.scope lp n)) := by
  have w1 : WordOk (scW lp) := by cases lp <;> exact wordOk_let (by decide) (by decide) (by decide)
  have w2 : scW lp ∈ WDS := by cases lp <;> decide
  refine ⟨[.w (scW lp), .w n, .y 123], ?_, ?_⟩
  · have e1 : scW lp ++ tx " " ++ n ++ tx " {" = scW lp ++ 32 :: (n ++ 32 :: [123]) := by
      rw [show tx " " = [32] from rfl, show tx " {" = [32, 123] from rfl]
      simp only [List.append_assoc, List.cons_append, List.nil_append]
    have l3 : lex ([123] : Tx) = some [dY 123] := by rw [lex_sym (by decide)]; rfl
    rw [e1, lex_ww w1, lex_ww h.w, l3]; rfl
  · rw [lineP_wd w2]
    unfold wordP
    have n1 : scW lp ≠ tx "exit" := by cases lp <;> decide
    have n2 : ¬ (scW lp = tx "break" ∨ scW lp = tx "continue") := by cases lp <;> decide
    have n3 : scW lp = tx "block" ∨ scW lp = tx "loop" := by cases lp <;> decide
    have n4 : decide (scW lp = tx "loop") = lp := by cases lp <;> decide
    simp only [if_neg n1, if_neg n2, if_pos n3, lblP_ok h, Option.bind_some, expP_hd, Option.map_some, n4]
    rfl
theorem ln_jump {c : Bool} {n : Tx} (h : LabOk2 n) : LineIs lineP (jmW c ++ tx " " ++ n) (.stm (.jump c n)) := by
  have w1 : WordOk (jmW c) := by cases c <;> exact wordOk_let (by decide) (by decide) (by decide)
  have w2 : jmW c ∈ WDS := by cases c <;> decide
  refine ⟨[.w (jmW c), .w n], ?_, ?_⟩
  · have e1 : jmW c ++ tx " " ++ n = jmW c ++ 32 :: n := by
      rw [show tx " " = [32] from rfl]
      simp only [List.append_assoc, List.cons_append, List.nil_append]
    rw [e1, lex_ww w1, lex_w h.w]; rfl
  · rw [lineP_wd w2]
    unfold wordP
    have n1 : jmW c ≠ tx "exit" := by cases c <;> decide
    have n2 : jmW c = tx "break" ∨ jmW c = tx "continue" := by cases c <;> decide
    have n4 : decide (jmW c = tx "continue") = c := by cases c <;> decide
    simp only [if_neg n1, if_pos n2, lblP_ok h, Option.map_some, n4]
    rfl
theorem ln_exit : LineIs lineP (tx "exit") (.stm .exit) := by
  refine ⟨[.w (tx "exit")], lex_w (wordOk_let (by decide) (by decide) (by decide)), ?_⟩
  rw [lineP_wd (by decide)]
  unfold wordP
  simp only [if_true]; rfl
theorem ln_cls : LineIs lineP (tx "}") .cls := ⟨[.y 125], by rw [show tx "}" = 125 :: [] from rfl, lex_sym (by decide)]; rfl, rfl⟩
theorem ln_els : LineIs lineP (tx "} else {") .els := by
  refine ⟨[.y 125, .w (tx "else"), .y 123], ?_, rfl⟩
  rw [show tx "} else {" = 125 :: 32 :: (tx "else" ++ 32 :: [123]) from rfl, lex_sym (by decide), lex_space, lex_ww wElse, lex_sym (by decide)]; rfl
inductive Lns : List Tx → List Lk → Prop where
  | nil : Lns [] []
  | cons {l : Tx} {k : Lk} {ls : List Tx} {ks : List Lk} (h : LineIs lineP l k) (t : Lns ls ks) : Lns (l :: ls) (k :: ks)
theorem Lns.app {a : List Tx} {b : List Lk} (h : Lns a b) : ∀ {c : List Tx} {d : List Lk}, Lns c d → Lns (a ++ c) (b ++ d) := by
  induction h with
  | nil => exact fun k => k
  | cons h _ ih => exact fun k => .cons h (ih k)
theorem Lns.one {l : Tx} {k : Lk} (h : LineIs lineP l k) : Lns [l] [k] := .cons h .nil
theorem Lns.no10 {a : List Tx} {b : List Lk} (h : Lns a b) : ∀ l ∈ a, ¬ (10 : Nat) ∈ l := by
  induction h with
  | nil => intro l m; cases m
  | cons h _ ih =>
    intro l m
    rcases List.mem_cons.mp m with rfl | m
    · exact h.no10
    · exact ih l m
theorem LineIs.ind {l : Tx} {k : Lk} (d : Nat) (h : LineIs lineP l k) : LineIs lineP (indT d ++ l) k := h.lex (lex_ind d l)
mutual
theorem lns_S : ∀ (s : Sm) (d : Nat), SmOk s → Lns (smT d s) (flatS s)
  | .node l dd, d, h => .one ((ln_node h.1 h.2.1 h.2.2.1).ind d)
  | .jump c n, d, h => .one ((ln_jump h).ind d)
  | .exit, d, h => .one (ln_exit.ind d)
  | .scope lp n b, d, h => .cons ((ln_scope h.1).ind d) ((lns_L b (d + 1) h.2).app (.one (ln_cls.ind d)))
  | .cond l e a b, d, h => by
    have hb := h.2.2.2.2
    cases b with
    | nil => exact .cons ((ln_cond h.1 h.2.1 h.2.2.1).ind d) ((lns_L a (d + 1) h.2.2.2.1).app (.one (ln_cls.ind d)))
    | cons s r =>
      refine .cons ((ln_cond h.1 h.2.1 h.2.2.1).ind d) ((lns_L a (d + 1) h.2.2.2.1).app ?_)
      exact .cons (ln_els.ind d) (((lns_S s (d + 1) hb.1).app (lns_L r (d + 1) hb.2)).app (.one (ln_cls.ind d)))
theorem lns_L : ∀ (b : List Sm) (d : Nat), SmsOk b → Lns (smLT d b) (flatL b)
  | [], d, _ => .nil
  | s :: r, d, h => (lns_S s d h.1).app (lns_L r d h.2)
end
/-- rows: blank ones, and lines -/
inductive Rl : List Tx → List Lk → Prop where
  | nil : Rl [] []
  | bl {r : Tx} {rs : List Tx} {ks : List Lk} (h : isBl r = true) (t : Rl rs ks) : Rl (r :: rs) ks
  | ln {r : Tx} {rs : List Tx} {k : Lk} {ks : List Lk} (h : LineIs lineP r k) (t : Rl rs ks) : Rl (r :: rs) (k :: ks)
theorem spr_rl {ls rows : List Tx} (h : Spr ls rows) : ∀ {ks : List Lk}, Lns ls ks → Rl rows ks := by
  induction h with
  | nil => intro ks k; cases k; exact .nil
  | bl h _ ih => exact fun k => .bl h (ih k)
  | ln h _ ih =>
    intro ks k
    cases k with
    | cons h2 t2 => exact .ln (h2.lex h) (ih t2)
theorem Lns.rl {ls : List Tx} {ks : List Lk} (h : Lns ls ks) : Rl ls ks := spr_rl (Spr.self ls) h
theorem lineP_nil : lineP [] = none := rfl
/-! ### how deep a body is as data -/
theorem okN_dd {d : Dd} {n : Nat} (h : d.ex.ht + 1 ≤ n) : okN n d.D = true := by
  cases n with
  | zero => omega
  | succ n =>
    cases d with
    | set v e => have := okN_ex e n (by simpa [Dd.ex] using h); cases n <;> simp_all [Dd.D, okN, okN.okNs]
    | prt e => have := okN_ex e n (by simpa [Dd.ex] using h); cases n <;> simp_all [Dd.D, okN, okN.okNs]
    | cnd e => have := okN_ex e n (by simpa [Dd.ex] using h); cases n <;> simp_all [Dd.D, okN, okN.okNs]
theorem okL_dd (d : Dd) : okL d.D = true := by
  cases d with
  | set v e => have := okL_ex e; simp [Dd.D, okL, okL.okLs, this]
  | prt e => have := okL_ex e; simp [Dd.D, okL, okL.okLs, this]
  | cnd e => have := okL_ex e; simp [Dd.D, okL, okL.okLs, this]
mutual
def Sm.wid : Sm → Nat
  | .cond _ _ a b => max (widL a) (widL b)
  | .scope _ _ b => widL b
  | _ => 0
def widL : List Sm → Nat
  | [] => 0
  | s :: r => max (r.length + 1) (max s.wid (widL r))
end
theorem widL_len : ∀ b : List Sm, b.length ≤ widL b
  | [] => Nat.le_refl _
  | s :: r => by show r.length + 1 ≤ max (r.length + 1) _; omega
theorem smD_len : ∀ b : List Sm, (smD b).length = b.length
  | [] => rfl
  | s :: r => by show (smD r).length + 1 = _; rw [smD_len r]; rfl
mutual
theorem okN_S : ∀ (s : Sm) (n : Nat), SmOk s → 2 * s.nest + 7 ≤ n → okN n s.D = true
  | _, 0, _, h => by omega
  | .node l d, n + 1, h, hn => by
    have := okN_dd (d := d) (n := n) (by have : 2 * 0 + 7 ≤ n + 1 := hn; have := h.2.2.2; omega)
    have hn : 2 * 0 + 7 ≤ n + 1 := hn
    obtain ⟨m, rfl⟩ : ∃ m, n = m + 1 := ⟨n - 1, by omega⟩
    simp [Sm.D, okN, okN.okNs, this]
  | .jump c n', n + 1, h, hn => by
    have hn : 2 * 0 + 7 ≤ n + 1 := hn
    obtain ⟨m, rfl⟩ : ∃ m, n = m + 1 := ⟨n - 1, by omega⟩
    simp [Sm.D, okN, okN.okNs]
  | .exit, n + 1, h, hn => by
    have hn : 2 * 0 + 7 ≤ n + 1 := hn
    obtain ⟨m, rfl⟩ : ∃ m, n = m + 1 := ⟨n - 1, by omega⟩
    simp [Sm.D, okN, okN.okNs]
  | .scope lp n' b, n + 1, h, hn => by
    have hn : 2 * (1 + nestL b) + 7 ≤ n + 1 := hn
    obtain ⟨m, rfl⟩ : ∃ m, n = m + 1 := ⟨n - 1, by omega⟩
    have := okN_L b m h.2 (by omega)
    simp [Sm.D, okN, okN.okNs, this]
  | .cond l e a b, n + 1, h, hn => by
    have hn : 2 * (1 + max (nestL a) (nestL b)) + 7 ≤ n + 1 := hn
    obtain ⟨m, rfl⟩ : ∃ m, n = m + 1 := ⟨n - 1, by omega⟩
    have a1 := okN_L a m h.2.2.2.1 (by omega)
    have b1 := okN_L b m h.2.2.2.2 (by omega)
    have c1 := okN_ex e (m + 1) (by have := h.2.2.1; omega)
    simp [Sm.D, okN, okN.okNs, a1, b1, c1]
theorem okN_L : ∀ (b : List Sm) (n : Nat), SmsOk b → 2 * nestL b + 7 ≤ n → okN.okNs n (smD b) = true
  | [], n, _, _ => by cases n <;> rfl
  | s :: r, n, h, hn => by
    have hn : 2 * max s.nest (nestL r) + 7 ≤ n := hn
    have a := okN_S s n h.1 (by omega)
    have b := okN_L r n h.2 (by omega)
    simp [smD, okN.okNs, a, b]
end
mutual
theorem okL_S : ∀ (s : Sm), s.wid ≤ 1000000 → okL s.D = true
  | .node l d, _ => by simp [Sm.D, okL, okL.okLs, okL_dd]
  | .jump c n', _ => by simp [Sm.D, okL, okL.okLs]
  | .exit, _ => by simp [Sm.D, okL, okL.okLs]
  | .scope lp n' b, h => by
    have h : widL b ≤ 1000000 := h
    have := okL_L b h
    have l := widL_len b
    have l2 := smD_len b
    simp [Sm.D, okL, okL.okLs, this]; omega
  | .cond l e a b, h => by
    have h : max (widL a) (widL b) ≤ 1000000 := h
    have a1 := okL_L a (by omega)
    have b1 := okL_L b (by omega)
    have l := widL_len b
    have l2 := smD_len b
    have l3 := widL_len a
    have l4 := smD_len a
    simp [Sm.D, okL, okL.okLs, a1, b1, okL_ex]; omega
theorem okL_L : ∀ (b : List Sm), widL b ≤ 1000000 → okL.okLs (smD b) = true
  | [], _ => rfl
  | s :: r, h => by
    have h : max (r.length + 1) (max s.wid (widL r)) ≤ 1000000 := h
    have a := okL_S s (by omega)
    have b := okL_L r (by omega)
    simp [smD, okL.okLs, a, b]
end
theorem okN_body {b : List Sm} {n : Nat} (h : SmsOk b) (hn : 2 * nestL b + 8 ≤ n) : okN n (.tup (smD b)) = true := by
  obtain ⟨m, rfl⟩ : ∃ m, n = m + 1 := ⟨n - 1, by omega⟩
  exact okN_L b m h (by omega)
theorem okL_body {b : List Sm} (h : widL b ≤ 1000000) : okL (.tup (smD b)) = true := by
  have a := okL_L b h
  have l := widL_len b
  have l2 := smD_len b
  simp [okL, a]; omega
end QL
namespace QL
open PySem PySem.Spec PyProof.Rows L2
/-! ### drawn bodies -/
def L16 : Tx := tx "abcdefghijklmnop"
def nlab (i : Nat) : Tx := [110, L16.getD i 0]
def slab (i : Nat) : Tx := [115, L16.getD i 0]
def arD (bs : List Bool) : List QL.D := bs.zipIdx.map fun x => .tup [.str (scW x.1), .str (slab x.2)]
def labN (k : Nat) : List Tx := (List.range k).map nlab
/-- what the law draws: at most m levels below, within the blocks and loops bs, labels from k on to j -/
inductive Bd : Nat → List Bool → Nat → List Sm → Nat → Prop where
  | nil {m : Nat} {bs : List Bool} {k : Nat} : Bd m bs k [] k
  | node {m : Nat} {bs : List Bool} {k j : Nat} {b : List Sm} {d : Dd} (h : Bd m bs k b j) (hd : DdOk d) (h3 : d.ex.ht ≤ 3) (hc : d.isC = false) (hj : j < 12) : Bd m bs k (b ++ [.node (nlab j) d]) (j + 1)
  | cond {m : Nat} {bs : List Bool} {k j j1 j2 : Nat} {b a c : List Sm} {e : Ex} (h : Bd (m + 1) bs k b j) (hj : j < 12) (he : ExOk e) (h3 : e.ht ≤ 3) (ha : Bd m bs (j + 1) a j1) (hc : Bd m bs j1 c j2) (la : a.length ≤ 3) (lc : c.length ≤ 3) : Bd (m + 1) bs k (b ++ [.cond (nlab j) e a c]) j2
  | scope {m : Nat} {bs : List Bool} {k j j1 : Nat} {b a : List Sm} {lp : Bool} (h : Bd (m + 1) bs k b j) (ha : Bd m (bs ++ [lp]) j a j1) (la : a.length ≤ 3) (hb : bs.length ≤ 3) : Bd (m + 1) bs k (b ++ [.scope lp (slab bs.length) a]) j1
  | brk {m : Nat} {bs : List Bool} {k j i : Nat} {b : List Sm} (h : Bd m bs k b j) (hi : i < bs.length) (hb : bs.length ≤ 4) : Bd m bs k (b ++ [.jump false (slab i)]) j
  | cnt {m : Nat} {bs : List Bool} {k j i : Nat} {b : List Sm} (h : Bd m bs k b j) (hi : bs[i]? = some true) (hb : bs.length ≤ 4) : Bd m bs k (b ++ [.jump true (slab i)]) j
  | exit {m : Nat} {bs : List Bool} {k j : Nat} {b : List Sm} (h : Bd m bs k b j) (hm : m < 4) : Bd m bs k (b ++ [.exit]) j
theorem nlab_ok : ∀ i, i < 12 → LabOk2 (nlab i) := by
  have h : ∀ i, i < 12 → (∀ c ∈ nlab i, c ∈ LET) ∧ isLabel (nlab i) = true := by decide +kernel
  intro i hi
  obtain ⟨a, b⟩ := h i hi
  exact ⟨wordOk_let (by simp [nlab]) (by simp [nlab]) a, b, by simp [nlab]⟩
theorem slab_ok : ∀ i, i < 12 → LabOk2 (slab i) := by
  have h : ∀ i, i < 12 → (∀ c ∈ slab i, c ∈ LET) ∧ isLabel (slab i) = true := by decide +kernel
  intro i hi
  obtain ⟨a, b⟩ := h i hi
  exact ⟨wordOk_let (by simp [slab]) (by simp [slab]) a, b, by simp [slab]⟩
theorem Bd.mono {m : Nat} {bs : List Bool} {k j : Nat} {b : List Sm} (h : Bd m bs k b j) : k ≤ j := by
  induction h with
  | nil => exact Nat.le_refl _
  | node _ _ _ _ _ ih => omega
  | cond _ _ _ _ _ _ _ _ i1 i2 i3 => omega
  | scope _ _ _ _ i1 i2 => omega
  | brk _ _ _ ih => exact ih
  | cnt _ _ _ ih => exact ih
  | exit _ _ ih => exact ih
theorem Bd.ok {m : Nat} {bs : List Bool} {k j : Nat} {b : List Sm} (h : Bd m bs k b j) : SmsOk b := by
  induction h with
  | nil => trivial
  | node _ hd h3 hc hj ih => exact ih.app ⟨⟨nlab_ok _ hj, hd, hc, by omega⟩, trivial⟩
  | cond _ hj he h3 _ _ _ _ i1 i2 i3 => exact i1.app ⟨⟨nlab_ok _ hj, he, by omega, i2, i3⟩, trivial⟩
  | scope _ _ _ hb i1 i2 => exact i1.app ⟨⟨slab_ok _ (by omega), i2⟩, trivial⟩
  | brk _ hi hb ih => exact ih.app ⟨slab_ok _ (by omega), trivial⟩
  | cnt _ hi hb ih => exact ih.app ⟨slab_ok _ (by have := (List.getElem?_eq_some_iff.mp hi).1; omega), trivial⟩
  | exit _ _ ih => exact ih.app ⟨trivial, trivial⟩
theorem nestL_app : ∀ a b : List Sm, nestL (a ++ b) = max (nestL a) (nestL b)
  | [], b => by show nestL b = max 0 _; omega
  | s :: r, b => by
    show max s.nest (nestL (r ++ b)) = max (max s.nest (nestL r)) _
    rw [nestL_app r b]; omega
theorem nestL_one (s : Sm) : nestL [s] = s.nest := by show max s.nest 0 = _; omega
theorem Bd.nest {m : Nat} {bs : List Bool} {k j : Nat} {b : List Sm} (h : Bd m bs k b j) : nestL b ≤ m := by
  induction h with
  | nil => exact Nat.zero_le _
  | node _ _ _ _ _ ih => rw [nestL_app, nestL_one]; show max _ 0 ≤ _; omega
  | cond _ _ _ _ _ _ _ _ i1 i2 i3 => rw [nestL_app, nestL_one]; show max _ (1 + max _ _) ≤ _; omega
  | scope _ _ _ _ i1 i2 => rw [nestL_app, nestL_one]; show max _ (1 + _) ≤ _; omega
  | brk _ _ _ ih => rw [nestL_app, nestL_one]; show max _ 0 ≤ _; omega
  | cnt _ _ _ ih => rw [nestL_app, nestL_one]; show max _ 0 ≤ _; omega
  | exit _ _ ih => rw [nestL_app, nestL_one]; show max _ 0 ≤ _; omega
theorem widL_app : ∀ a b : List Sm, widL (a ++ b) ≤ max (a.length + b.length) (max (widL a) (widL b))
  | [], b => by show widL b ≤ _; omega
  | s :: r, b => by
    show max ((r ++ b).length + 1) (max s.wid (widL (r ++ b))) ≤ max (r.length + 1 + b.length) (max (max (r.length + 1) (max s.wid (widL r))) (widL b))
    have := widL_app r b
    rw [List.length_append]; omega
theorem widL_one (s : Sm) : widL [s] = max 1 s.wid := by show max 1 (max s.wid 0) = _; omega
theorem Bd.wid {m : Nat} {bs : List Bool} {k j : Nat} {b : List Sm} (h : Bd m bs k b j) : widL b ≤ max b.length 3 := by
  have one : ∀ (b : List Sm) (s : Sm), widL b ≤ max b.length 3 → s.wid ≤ 3 → widL (b ++ [s]) ≤ max (b ++ [s]).length 3 := by
    intro b s h1 h2
    have h3 := widL_app b [s]
    rw [widL_one] at h3
    have e : ([s] : List Sm).length = 1 := rfl
    rw [e] at h3
    rw [List.length_append, e]; omega
  induction h with
  | nil => exact Nat.zero_le _
  | node _ _ _ _ _ ih => exact one _ _ ih (Nat.zero_le _)
  | cond _ _ _ _ _ _ la lc i1 i2 i3 => exact one _ _ i1 (by show max _ _ ≤ 3; omega)
  | scope _ _ la _ i1 i2 => exact one _ _ i1 (by show widL _ ≤ 3; omega)
  | brk _ _ _ ih => exact one _ _ ih (Nat.zero_le _)
  | cnt _ _ _ ih => exact one _ _ ih (Nat.zero_le _)
  | exit _ _ ih => exact one _ _ ih (Nat.zero_le _)
/-! ### how many lines, and how long -/
def LB : Nat → Nat
  | 0 => 1
  | m + 1 => 3 + 6 * LB m
theorem LB_pos (m : Nat) : 1 ≤ LB m := by cases m <;> simp [LB]; omega
theorem Bd.lines {m : Nat} {bs : List Bool} {k j : Nat} {b : List Sm} (h : Bd m bs k b j) : ∀ d, (smLT d b).length ≤ b.length * LB m := by
  have one : ∀ (b : List Sm) (s : Sm) (n : Nat) (d : Nat), (smLT d b).length ≤ b.length * n → (smT d s).length ≤ n → (smLT d (b ++ [s])).length ≤ (b ++ [s]).length * n := by
    intro b s n d h1 h2
    rw [smLT_app, List.length_append, List.length_append]
    show (smLT d b).length + (smT d s ++ []).length ≤ (b.length + 1) * n
    rw [List.append_nil, Nat.add_mul]; omega
  induction h with
  | nil => intro d; exact Nat.zero_le _
  | @node m _ _ _ _ _ _ _ _ _ _ ih => exact fun d => one _ _ _ _ (ih d) (LB_pos m)
  | @cond m bs k j j1 j2 b a c e _ _ _ _ _ _ la lc i1 i2 i3 =>
    intro d
    refine one _ _ _ _ (i1 d) ?_
    have h2 := i2 (d + 1)
    have h3 := i3 (d + 1)
    have h4 : a.length * LB m ≤ 3 * LB m := Nat.mul_le_mul_right _ la
    have h5 : c.length * LB m ≤ 3 * LB m := Nat.mul_le_mul_right _ lc
    have e1 : (smT d (.cond (nlab j) e a c)).length ≤ 3 + (smLT (d + 1) a).length + (smLT (d + 1) c).length := by
      cases c with
      | nil =>
        show ((_ :: (smLT (d + 1) a ++ ([] ++ [_]))) : List Tx).length ≤ _
        simp only [List.length_cons, List.length_append, List.length_nil]; omega
      | cons s r =>
        show ((_ :: (smLT (d + 1) a ++ ((_ :: (smT (d + 1) s ++ smLT (d + 1) r)) ++ [_]))) : List Tx).length ≤ 3 + _ + (smT (d + 1) s ++ smLT (d + 1) r).length
        simp only [List.length_cons, List.length_append, List.length_nil]; omega
    show _ ≤ 3 + 6 * LB m
    omega
  | @scope m bs k j j1 b a lp _ _ la _ i1 i2 =>
    intro d
    refine one _ _ _ _ (i1 d) ?_
    have h2 := i2 (d + 1)
    have h4 : a.length * LB m ≤ 3 * LB m := Nat.mul_le_mul_right _ la
    show ((_ :: (smLT (d + 1) a ++ [_])) : List Tx).length ≤ 3 + 6 * LB m
    simp only [List.length_cons, List.length_append, List.length_nil]; omega
  | @brk m _ _ _ _ _ _ _ _ ih => exact fun d => one _ _ _ _ (ih d) (LB_pos m)
  | @cnt m _ _ _ _ _ _ _ _ ih => exact fun d => one _ _ _ _ (ih d) (LB_pos m)
  | @exit m _ _ _ _ _ _ ih => exact fun d => one _ _ _ _ (ih d) (LB_pos m)
mutual
def SmSh : Sm → Prop
  | .node l d => l.length ≤ 11 ∧ (∀ v e, d = .set v e → v.length ≤ 20) ∧ ExOk d.ex ∧ d.ex.ht ≤ 3
  | .cond l e a b => l.length ≤ 11 ∧ ExOk e ∧ e.ht ≤ 3 ∧ SmsSh a ∧ SmsSh b
  | .scope _ n b => n.length ≤ 11 ∧ SmsSh b
  | .jump _ n => n.length ≤ 11
  | .exit => True
def SmsSh : List Sm → Prop
  | [] => True
  | s :: r => SmSh s ∧ SmsSh r
end
theorem SmsSh.app : ∀ {a b : List Sm}, SmsSh a → SmsSh b → SmsSh (a ++ b)
  | [], _, _, h => h
  | _ :: _, _, h, k => ⟨h.1, SmsSh.app h.2 k⟩
theorem Bd.sh {m : Nat} {bs : List Bool} {k j : Nat} {b : List Sm} (h : Bd m bs k b j) : SmsSh b := by
  have n2 : ∀ i, (nlab i).length ≤ 11 := fun i => by show 2 ≤ 11; omega
  have s2 : ∀ i, (slab i).length ≤ 11 := fun i => by show 2 ≤ 11; omega
  induction h with
  | nil => trivial
  | node _ hd h3 hc hj ih => exact ih.app ⟨⟨n2 _, fun v e z => Nat.le_trans (hd.v v e z).2.1 (by decide), hd.ex, h3⟩, trivial⟩
  | cond _ hj he h3 _ _ _ _ i1 i2 i3 => exact i1.app ⟨⟨n2 _, he, h3, i2, i3⟩, trivial⟩
  | scope _ _ _ hb i1 i2 => exact i1.app ⟨⟨s2 _, i2⟩, trivial⟩
  | brk _ hi hb ih => exact ih.app ⟨s2 _, trivial⟩
  | cnt _ hi hb ih => exact ih.app ⟨s2 _, trivial⟩
  | exit _ _ ih => exact ih.app ⟨trivial, trivial⟩
theorem indT_len (d : Nat) : (indT d).length = 2 * d := by simp [indT]
mutual
theorem len_S : ∀ (s : Sm) (d n : Nat), SmSh s → d + s.nest ≤ n → ∀ l ∈ smT d s, l.length ≤ 2 * n + 160
  | .node l dd, d, n, h, hn => by
    intro x hx
    have hn : d + 0 ≤ n := hn
    have h1 := ddTx_len4 (m := 3) h.2.2.1 h.2.2.2 h.2.1
    rw [List.mem_singleton.mp hx]
    have l1 : (tx ": ").length = 2 := rfl
    have := h.1
    simp only [List.length_append, indT_len, l1]; omega
  | .jump c n', d, n, h, hn => by
    intro x hx
    have hn : d + 0 ≤ n := hn
    have h : n'.length ≤ 11 := h
    rw [List.mem_singleton.mp hx]
    have l1 : (tx " ").length = 1 := rfl
    have l2 : (jmW c).length ≤ 8 := by cases c <;> decide
    simp only [List.length_append, indT_len, l1]; omega
  | .exit, d, n, h, hn => by
    intro x hx
    have hn : d + 0 ≤ n := hn
    rw [List.mem_singleton.mp hx]
    have l1 : (tx "exit").length = 4 := rfl
    simp only [List.length_append, indT_len, l1]; omega
  | .scope lp n' b, d, n, h, hn => by
    intro x hx
    have hn : d + (1 + nestL b) ≤ n := hn
    have ih := len_L b (d + 1) n h.2 (by omega)
    have l1 : (tx " ").length = 1 := rfl
    have l2 : (scW lp).length ≤ 8 := by cases lp <;> decide
    have l3 : (tx " {").length = 2 := rfl
    have l4 : (tx "}").length = 1 := rfl
    have h1 := h.1
    rcases List.mem_cons.mp hx with rfl | hx
    · simp only [List.length_append, indT_len, l1, l3]; omega
    · rcases List.mem_append.mp hx with hx | hx
      · exact ih x hx
      · rw [List.mem_singleton.mp hx]
        simp only [List.length_append, indT_len, l4]; omega
  | .cond l e a b, d, n, h, hn => by
    intro x hx
    have hn : d + (1 + max (nestL a) (nestL b)) ≤ n := hn
    have ia := len_L a (d + 1) n h.2.2.2.1 (by omega)
    have l1 : (tx ": if ").length = 5 := rfl
    have l3 : (tx " {").length = 2 := rfl
    have l4 : (tx "}").length = 1 := rfl
    have l5 : (tx "} else {").length = 8 := rfl
    have h1 := h.1
    have t := txt_len e 0 h.2.1
    have p : 2 ^ e.ht ≤ 2 ^ 3 := Nat.pow_le_pow_right (by decide) h.2.2.1
    have hb := h.2.2.2.2
    cases b with
    | nil =>
      rcases List.mem_cons.mp hx with rfl | hx
      · simp only [List.length_append, indT_len, l1, l3]; omega
      · rcases List.mem_append.mp hx with hx | hx
        · exact ia x hx
        · rw [List.mem_singleton.mp hx]
          simp only [List.length_append, indT_len, l4]; omega
    | cons s r =>
      have hn : d + (1 + max (nestL a) (max s.nest (nestL r))) ≤ n := hn
      have is := len_S s (d + 1) n hb.1 (by omega)
      have ir := len_L r (d + 1) n hb.2 (by omega)
      rcases List.mem_cons.mp hx with rfl | hx
      · simp only [List.length_append, indT_len, l1, l3]; omega
      · rcases List.mem_append.mp hx with hx | hx
        · exact ia x hx
        · rcases List.mem_append.mp hx with hx | hx
          · rcases List.mem_cons.mp hx with rfl | hx
            · simp only [List.length_append, indT_len, l5]; omega
            · rcases List.mem_append.mp hx with hx | hx
              · exact is x hx
              · exact ir x hx
          · rw [List.mem_singleton.mp hx]
            simp only [List.length_append, indT_len, l4]; omega
theorem len_L : ∀ (b : List Sm) (d n : Nat), SmsSh b → d + nestL b ≤ n → ∀ l ∈ smLT d b, l.length ≤ 2 * n + 160
  | [], _, _, _, _ => fun x hx => by cases hx
  | s :: r, d, n, h, hn => by
    have hn : d + max s.nest (nestL r) ≤ n := hn
    intro x hx
    rcases List.mem_append.mp hx with hx | hx
    · exact len_S s d n h.1 (by omega) x hx
    · exact len_L r d n h.2 (by omega) x hx
end
/-- all of a drawn body that the laws ask -/
structure BodyOk (b : List Sm) : Prop where
  ok : SmsOk b
  sh : SmsSh b
  nest : nestL b ≤ 4
  wid : widL b ≤ 3
  cnt : (smLT 0 b).length ≤ 6300
  len : ∀ l ∈ smLT 0 b, l.length ≤ 168
theorem Bd.body {b : List Sm} {j : Nat} (h : Bd 4 [] 0 b j) (hl : b.length ≤ 3) : BodyOk b := by
  refine ⟨h.ok, h.sh, h.nest, by have := h.wid; omega, ?_, fun l hx => ?_⟩
  · have h1 := h.lines 0
    have e : LB 4 = 1 * 1296 + 3 * (1 + 6 + 36 + 216) := rfl
    rw [e] at h1
    have : b.length * (1 * 1296 + 3 * (1 + 6 + 36 + 216)) ≤ 3 * (1 * 1296 + 3 * (1 + 6 + 36 + 216)) := Nat.mul_le_mul_right _ hl
    omega
  · have := len_L b 0 4 h.sh (by have := h.nest; omega) l hx
    omega
theorem BodyOk.nil : BodyOk [] := ⟨trivial, trivial, Nat.zero_le _, Nat.zero_le _, Nat.zero_le _, fun _ h => by cases h⟩
end QL
namespace L20
open PySem PySem.Spec PyProof.Rows L2 QL
def top (i : Nat) : Stmt := PySem.Challenge.pw_restruct_k20_bodies_read.main.body.getD i (.Pass ⟨0, 0, 0, 0⟩)
abbrev s_run_end : Stmt := top 12
abbrev s_number_of : Stmt := top 13
abbrev s_word_end : Stmt := top 14
abbrev s_signs_of : Stmt := top 15
abbrev s_is_name : Stmt := top 16
abbrev s_is_label : Stmt := top 17
abbrev s_Reader__init : Stmt := inClass (top 18) 0
abbrev s_Reader_peek : Stmt := inClass (top 18) 1
abbrev s_Reader_take : Stmt := inClass (top 18) 2
abbrev s_Reader_skip : Stmt := inClass (top 18) 3
abbrev s_Reader_expect : Stmt := inClass (top 18) 4
abbrev s_Reader_take_name : Stmt := inClass (top 18) 5
abbrev s_Reader_take_label : Stmt := inClass (top 18) 6
abbrev s_Reader_finish : Stmt := inClass (top 18) 8
abbrev s_is_blank : Stmt := top 19
abbrev s_joined : Stmt := top 24
abbrev s_read_primary : Stmt := top 25
abbrev s_read_product : Stmt := top 26
abbrev s_read_sum : Stmt := top 27
abbrev s_read_comparison : Stmt := top 28
abbrev s_read_expression : Stmt := top 29
abbrev s_text_at : Stmt := top 30
abbrev s_expression_text : Stmt := top 31
abbrev s_read_deed : Stmt := top 33
abbrev s_deed_text : Stmt := top 34
abbrev s_Open__init : Stmt := inClass (top 37) 0
abbrev s_Open_closed : Stmt := inClass (top 37) 1
abbrev s_read_labelled : Stmt := top 38
abbrev s_read_worded : Stmt := top 39
abbrev s_read_line : Stmt := top 40
abbrev s_take_line : Stmt := top 41
abbrev s_begin_else : Stmt := top 42
abbrev s_parse_body : Stmt := top 43
abbrev s_inner_lines : Stmt := top 44
abbrev s_statement_lines : Stmt := top 45
abbrev s_body_text : Stmt := top 46
abbrev s_law_cell : Stmt := top 48
abbrev s_law_draws : Stmt := top 49
abbrev s_law_stream : Stmt := top 50
abbrev s_law_next : Stmt := top 51
abbrev s_law_variable : Stmt := top 52
abbrev s_law_number : Stmt := top 53
abbrev s_law_expression : Stmt := top 54
abbrev s_law_level : Stmt := top 55
abbrev s_law_expression_text : Stmt := top 56
abbrev s_law_deed : Stmt := top 57
abbrev s_law_deed_text : Stmt := top 58
abbrev s_law_loose : Stmt := top 59
abbrev s_law_spread : Stmt := top 60
abbrev s_law_is_integer : Stmt := top 61
abbrev s_law_same : Stmt := top 62
abbrev s_law_body : Stmt := top 63
abbrev s_law_body_lines : Stmt := top 64
abbrev s_law_drawn_body : Stmt := top 65
abbrev s_law : Stmt := top 66
structure Ads where
  a_run_end : Addr
  d_run_end : FuncData
  a_number_of : Addr
  d_number_of : FuncData
  a_word_end : Addr
  d_word_end : FuncData
  a_signs_of : Addr
  d_signs_of : FuncData
  a_is_name : Addr
  d_is_name : FuncData
  a_is_label : Addr
  d_is_label : FuncData
  a_Reader__init : Addr
  d_Reader__init : FuncData
  a_Reader_peek : Addr
  d_Reader_peek : FuncData
  a_Reader_take : Addr
  d_Reader_take : FuncData
  a_Reader_skip : Addr
  d_Reader_skip : FuncData
  a_Reader_expect : Addr
  d_Reader_expect : FuncData
  a_Reader_take_name : Addr
  d_Reader_take_name : FuncData
  a_Reader_take_label : Addr
  d_Reader_take_label : FuncData
  a_Reader_finish : Addr
  d_Reader_finish : FuncData
  a_is_blank : Addr
  d_is_blank : FuncData
  a_joined : Addr
  d_joined : FuncData
  a_read_primary : Addr
  d_read_primary : FuncData
  a_read_product : Addr
  d_read_product : FuncData
  a_read_sum : Addr
  d_read_sum : FuncData
  a_read_comparison : Addr
  d_read_comparison : FuncData
  a_read_expression : Addr
  d_read_expression : FuncData
  a_text_at : Addr
  d_text_at : FuncData
  a_expression_text : Addr
  d_expression_text : FuncData
  a_read_deed : Addr
  d_read_deed : FuncData
  a_deed_text : Addr
  d_deed_text : FuncData
  a_Open__init : Addr
  d_Open__init : FuncData
  a_Open_closed : Addr
  d_Open_closed : FuncData
  a_read_labelled : Addr
  d_read_labelled : FuncData
  a_read_worded : Addr
  d_read_worded : FuncData
  a_read_line : Addr
  d_read_line : FuncData
  a_take_line : Addr
  d_take_line : FuncData
  a_begin_else : Addr
  d_begin_else : FuncData
  a_parse_body : Addr
  d_parse_body : FuncData
  a_inner_lines : Addr
  d_inner_lines : FuncData
  a_statement_lines : Addr
  d_statement_lines : FuncData
  a_body_text : Addr
  d_body_text : FuncData
  a_law_cell : Addr
  d_law_cell : FuncData
  a_law_draws : Addr
  d_law_draws : FuncData
  a_law_stream : Addr
  d_law_stream : FuncData
  a_law_next : Addr
  d_law_next : FuncData
  a_law_variable : Addr
  d_law_variable : FuncData
  a_law_number : Addr
  d_law_number : FuncData
  a_law_expression : Addr
  d_law_expression : FuncData
  a_law_level : Addr
  d_law_level : FuncData
  a_law_expression_text : Addr
  d_law_expression_text : FuncData
  a_law_deed : Addr
  d_law_deed : FuncData
  a_law_deed_text : Addr
  d_law_deed_text : FuncData
  a_law_loose : Addr
  d_law_loose : FuncData
  a_law_spread : Addr
  d_law_spread : FuncData
  a_law_is_integer : Addr
  d_law_is_integer : FuncData
  a_law_same : Addr
  d_law_same : FuncData
  a_law_body : Addr
  d_law_body : FuncData
  a_law_body_lines : Addr
  d_law_body_lines : FuncData
  a_law_drawn_body : Addr
  d_law_drawn_body : FuncData
  a_law : Addr
  d_law : FuncData
  c_SyntaxFault : Addr
  c_BadLine : Addr
  c_Reader : Addr
  c_Open : Addr
  t_LETTERS : Tok
  t_DIGITS : Tok
  t_SYMBOLS : Tok
  p_KEYWORDS : Addr
  t_MOST_LETTERS : Tok
  t_MOST_NUMBER : Tok
  t_MOST_HEIGHT : Tok
  t_MOST_OPEN : Tok
  p_LEVELS : Addr
  t_MOST_DEPTH : Tok
  exm : Addr → Addr → Option Bool
  isi : QL.D → Addr → Option Bool
def d_KEYWORDS : List QL.D := [.str (tx "entry"), .str (tx "goto"), .str (tx "else"), .str (tx "if"), .str (tx "print"), .str (tx "block"), .str (tx "loop"), .str (tx "break"), .str (tx "continue"), .str (tx "exit")]
def d_LEVELS : List (Tx × QL.D) := [(tx "=", .int 0), (tx "<", .int 0), (tx "+", .int 1), (tx "-", .int 1), (tx "*", .int 2)]
structure Txt (w : World) (K : PySem.W.Frag) (mg : Str → Option Value) (A : Ads) : Prop where
  h_exm : A.exm = exmK K
  h_isi : A.isi = isiK K
  v_BadLine_BadLine : A.exm A.c_BadLine A.c_BadLine = some true
  v_SyntaxFault_BadLine : A.exm A.c_BadLine A.c_SyntaxFault = some false
  f_run_end : Fun K "run_end" "run_end" s_run_end A.a_run_end A.d_run_end
  b_run_end : Binds K A.d_run_end ["line", "start", "chars"] []
  m_run_end : mg "run_end" = some (.ref A.a_run_end)
  f_number_of : Fun K "number_of" "number_of" s_number_of A.a_number_of A.d_number_of
  b_number_of : Binds K A.d_number_of ["digits", "least", "most"] []
  m_number_of : mg "number_of" = some (.ref A.a_number_of)
  f_word_end : Fun K "word_end" "word_end" s_word_end A.a_word_end A.d_word_end
  b_word_end : Binds K A.d_word_end ["line", "start"] []
  m_word_end : mg "word_end" = some (.ref A.a_word_end)
  f_signs_of : Fun K "signs_of" "signs_of" s_signs_of A.a_signs_of A.d_signs_of
  b_signs_of : Binds K A.d_signs_of ["line"] []
  m_signs_of : mg "signs_of" = some (.ref A.a_signs_of)
  f_is_name : Fun K "is_name" "is_name" s_is_name A.a_is_name A.d_is_name
  b_is_name : Binds K A.d_is_name ["word"] []
  m_is_name : mg "is_name" = some (.ref A.a_is_name)
  f_is_label : Fun K "is_label" "is_label" s_is_label A.a_is_label A.d_is_label
  b_is_label : Binds K A.d_is_label ["word"] []
  m_is_label : mg "is_label" = some (.ref A.a_is_label)
  f_Reader__init : Fun K "__init__" "Reader.__init__" s_Reader__init A.a_Reader__init A.d_Reader__init
  b_Reader__init : Binds K A.d_Reader__init ["self", "signs"] []
  me_Reader__init : Meth K A.c_Reader "__init__" A.a_Reader__init
  f_Reader_peek : Fun K "peek" "Reader.peek" s_Reader_peek A.a_Reader_peek A.d_Reader_peek
  b_Reader_peek : Binds K A.d_Reader_peek ["self"] []
  me_Reader_peek : Meth K A.c_Reader "peek" A.a_Reader_peek
  f_Reader_take : Fun K "take" "Reader.take" s_Reader_take A.a_Reader_take A.d_Reader_take
  b_Reader_take : Binds K A.d_Reader_take ["self"] []
  me_Reader_take : Meth K A.c_Reader "take" A.a_Reader_take
  f_Reader_skip : Fun K "skip" "Reader.skip" s_Reader_skip A.a_Reader_skip A.d_Reader_skip
  b_Reader_skip : Binds K A.d_Reader_skip ["self", "kind", "value"] []
  me_Reader_skip : Meth K A.c_Reader "skip" A.a_Reader_skip
  f_Reader_expect : Fun K "expect" "Reader.expect" s_Reader_expect A.a_Reader_expect A.d_Reader_expect
  b_Reader_expect : Binds K A.d_Reader_expect ["self", "kind", "value"] []
  me_Reader_expect : Meth K A.c_Reader "expect" A.a_Reader_expect
  f_Reader_take_name : Fun K "take_name" "Reader.take_name" s_Reader_take_name A.a_Reader_take_name A.d_Reader_take_name
  b_Reader_take_name : Binds K A.d_Reader_take_name ["self"] []
  me_Reader_take_name : Meth K A.c_Reader "take_name" A.a_Reader_take_name
  f_Reader_take_label : Fun K "take_label" "Reader.take_label" s_Reader_take_label A.a_Reader_take_label A.d_Reader_take_label
  b_Reader_take_label : Binds K A.d_Reader_take_label ["self"] []
  me_Reader_take_label : Meth K A.c_Reader "take_label" A.a_Reader_take_label
  f_Reader_finish : Fun K "finish" "Reader.finish" s_Reader_finish A.a_Reader_finish A.d_Reader_finish
  b_Reader_finish : Binds K A.d_Reader_finish ["self"] []
  me_Reader_finish : Meth K A.c_Reader "finish" A.a_Reader_finish
  f_is_blank : Fun K "is_blank" "is_blank" s_is_blank A.a_is_blank A.d_is_blank
  b_is_blank : Binds K A.d_is_blank ["line"] []
  m_is_blank : mg "is_blank" = some (.ref A.a_is_blank)
  f_joined : Fun K "joined" "joined" s_joined A.a_joined A.d_joined
  b_joined : Binds K A.d_joined ["sign", "left", "right", "heights"] []
  m_joined : mg "joined" = some (.ref A.a_joined)
  f_read_primary : Fun K "read_primary" "read_primary" s_read_primary A.a_read_primary A.d_read_primary
  b_read_primary : Binds K A.d_read_primary ["reader", "opened"] []
  m_read_primary : mg "read_primary" = some (.ref A.a_read_primary)
  f_read_product : Fun K "read_product" "read_product" s_read_product A.a_read_product A.d_read_product
  b_read_product : Binds K A.d_read_product ["reader", "opened"] []
  m_read_product : mg "read_product" = some (.ref A.a_read_product)
  f_read_sum : Fun K "read_sum" "read_sum" s_read_sum A.a_read_sum A.d_read_sum
  b_read_sum : Binds K A.d_read_sum ["reader", "opened"] []
  m_read_sum : mg "read_sum" = some (.ref A.a_read_sum)
  f_read_comparison : Fun K "read_comparison" "read_comparison" s_read_comparison A.a_read_comparison A.d_read_comparison
  b_read_comparison : Binds K A.d_read_comparison ["reader", "opened"] []
  m_read_comparison : mg "read_comparison" = some (.ref A.a_read_comparison)
  f_read_expression : Fun K "read_expression" "read_expression" s_read_expression A.a_read_expression A.d_read_expression
  b_read_expression : Binds K A.d_read_expression ["reader"] []
  m_read_expression : mg "read_expression" = some (.ref A.a_read_expression)
  f_text_at : Fun K "text_at" "text_at" s_text_at A.a_text_at A.d_text_at
  b_text_at : Binds K A.d_text_at ["expression", "level"] []
  m_text_at : mg "text_at" = some (.ref A.a_text_at)
  f_expression_text : Fun K "expression_text" "expression_text" s_expression_text A.a_expression_text A.d_expression_text
  b_expression_text : Binds K A.d_expression_text ["expression"] []
  m_expression_text : mg "expression_text" = some (.ref A.a_expression_text)
  f_read_deed : Fun K "read_deed" "read_deed" s_read_deed A.a_read_deed A.d_read_deed
  b_read_deed : Binds K A.d_read_deed ["reader"] []
  m_read_deed : mg "read_deed" = some (.ref A.a_read_deed)
  f_deed_text : Fun K "deed_text" "deed_text" s_deed_text A.a_deed_text A.d_deed_text
  b_deed_text : Binds K A.d_deed_text ["deed"] []
  m_deed_text : mg "deed_text" = some (.ref A.a_deed_text)
  f_Open__init : Fun K "__init__" "Open.__init__" s_Open__init A.a_Open__init A.d_Open__init
  b_Open__init : Binds K A.d_Open__init ["self", "head"] []
  me_Open__init : Meth K A.c_Open "__init__" A.a_Open__init
  f_Open_closed : Fun K "closed" "Open.closed" s_Open_closed A.a_Open_closed A.d_Open_closed
  b_Open_closed : Binds K A.d_Open_closed ["self"] []
  me_Open_closed : Meth K A.c_Open "closed" A.a_Open_closed
  f_read_labelled : Fun K "read_labelled" "read_labelled" s_read_labelled A.a_read_labelled A.d_read_labelled
  b_read_labelled : Binds K A.d_read_labelled ["reader"] []
  m_read_labelled : mg "read_labelled" = some (.ref A.a_read_labelled)
  f_read_worded : Fun K "read_worded" "read_worded" s_read_worded A.a_read_worded A.d_read_worded
  b_read_worded : Binds K A.d_read_worded ["reader"] []
  m_read_worded : mg "read_worded" = some (.ref A.a_read_worded)
  f_read_line : Fun K "read_line" "read_line" s_read_line A.a_read_line A.d_read_line
  b_read_line : Binds K A.d_read_line ["line"] []
  m_read_line : mg "read_line" = some (.ref A.a_read_line)
  f_take_line : Fun K "take_line" "take_line" s_take_line A.a_take_line A.d_take_line
  b_take_line : Binds K A.d_take_line ["stack", "found"] []
  m_take_line : mg "take_line" = some (.ref A.a_take_line)
  f_begin_else : Fun K "begin_else" "begin_else" s_begin_else A.a_begin_else A.d_begin_else
  b_begin_else : Binds K A.d_begin_else ["top"] []
  m_begin_else : mg "begin_else" = some (.ref A.a_begin_else)
  f_parse_body : Fun K "parse_body" "parse_body" s_parse_body A.a_parse_body A.d_parse_body
  b_parse_body : Binds K A.d_parse_body ["text"] []
  m_parse_body : mg "parse_body" = some (.ref A.a_parse_body)
  f_inner_lines : Fun K "inner_lines" "inner_lines" s_inner_lines A.a_inner_lines A.d_inner_lines
  b_inner_lines : Binds K A.d_inner_lines ["body", "depth"] []
  m_inner_lines : mg "inner_lines" = some (.ref A.a_inner_lines)
  f_statement_lines : Fun K "statement_lines" "statement_lines" s_statement_lines A.a_statement_lines A.d_statement_lines
  b_statement_lines : Binds K A.d_statement_lines ["statement", "depth"] []
  m_statement_lines : mg "statement_lines" = some (.ref A.a_statement_lines)
  f_body_text : Fun K "body_text" "body_text" s_body_text A.a_body_text A.d_body_text
  b_body_text : Binds K A.d_body_text ["body"] []
  m_body_text : mg "body_text" = some (.ref A.a_body_text)
  f_law_cell : Fun K "_law_cell" "_law_cell" s_law_cell A.a_law_cell A.d_law_cell
  b_law_cell : Binds K A.d_law_cell ["_law_script", "_law_k"] []
  m_law_cell : mg "_law_cell" = some (.ref A.a_law_cell)
  f_law_draws : Fun K "_law_draws" "_law_draws" s_law_draws A.a_law_draws A.d_law_draws
  b_law_draws : Binds K A.d_law_draws ["_law_cell_here", "_law_count"] []
  m_law_draws : mg "_law_draws" = some (.ref A.a_law_draws)
  f_law_stream : Fun K "_law_stream" "_law_stream" s_law_stream A.a_law_stream A.d_law_stream
  b_law_stream : Binds K A.d_law_stream ["_law_script", "_law_first", "_law_count"] []
  m_law_stream : mg "_law_stream" = some (.ref A.a_law_stream)
  f_law_next : Fun K "_law_next" "_law_next" s_law_next A.a_law_next A.d_law_next
  b_law_next : Binds K A.d_law_next ["_law_stream_here", "_law_many"] []
  m_law_next : mg "_law_next" = some (.ref A.a_law_next)
  f_law_variable : Fun K "_law_variable" "_law_variable" s_law_variable A.a_law_variable A.d_law_variable
  b_law_variable : Binds K A.d_law_variable ["_law_stream_here"] []
  m_law_variable : mg "_law_variable" = some (.ref A.a_law_variable)
  f_law_number : Fun K "_law_number" "_law_number" s_law_number A.a_law_number A.d_law_number
  b_law_number : Binds K A.d_law_number ["_law_stream_here"] []
  m_law_number : mg "_law_number" = some (.ref A.a_law_number)
  f_law_expression : Fun K "_law_expression" "_law_expression" s_law_expression A.a_law_expression A.d_law_expression
  b_law_expression : Binds K A.d_law_expression ["_law_stream_here", "_law_depth"] []
  m_law_expression : mg "_law_expression" = some (.ref A.a_law_expression)
  f_law_level : Fun K "_law_level" "_law_level" s_law_level A.a_law_level A.d_law_level
  b_law_level : Binds K A.d_law_level ["_law_sign"] []
  m_law_level : mg "_law_level" = some (.ref A.a_law_level)
  f_law_expression_text : Fun K "_law_expression_text" "_law_expression_text" s_law_expression_text A.a_law_expression_text A.d_law_expression_text
  b_law_expression_text : Binds K A.d_law_expression_text ["_law_expression_here", "_law_level_here"] []
  m_law_expression_text : mg "_law_expression_text" = some (.ref A.a_law_expression_text)
  f_law_deed : Fun K "_law_deed" "_law_deed" s_law_deed A.a_law_deed A.d_law_deed
  b_law_deed : Binds K A.d_law_deed ["_law_stream_here", "_law_conditional"] []
  m_law_deed : mg "_law_deed" = some (.ref A.a_law_deed)
  f_law_deed_text : Fun K "_law_deed_text" "_law_deed_text" s_law_deed_text A.a_law_deed_text A.d_law_deed_text
  b_law_deed_text : Binds K A.d_law_deed_text ["_law_deed_here"] []
  m_law_deed_text : mg "_law_deed_text" = some (.ref A.a_law_deed_text)
  f_law_loose : Fun K "_law_loose" "_law_loose" s_law_loose A.a_law_loose A.d_law_loose
  b_law_loose : Binds K A.d_law_loose ["_law_line", "_law_stream_here"] []
  m_law_loose : mg "_law_loose" = some (.ref A.a_law_loose)
  f_law_spread : Fun K "_law_spread" "_law_spread" s_law_spread A.a_law_spread A.d_law_spread
  b_law_spread : Binds K A.d_law_spread ["_law_lines", "_law_stream_here"] []
  m_law_spread : mg "_law_spread" = some (.ref A.a_law_spread)
  f_law_is_integer : Fun K "_law_is_integer" "_law_is_integer" s_law_is_integer A.a_law_is_integer A.d_law_is_integer
  b_law_is_integer : Binds K A.d_law_is_integer ["_law_actual"] []
  m_law_is_integer : mg "_law_is_integer" = some (.ref A.a_law_is_integer)
  f_law_same : Fun K "_law_same" "_law_same" s_law_same A.a_law_same A.d_law_same
  b_law_same : Binds K A.d_law_same ["_law_actual", "_law_expected"] []
  m_law_same : mg "_law_same" = some (.ref A.a_law_same)
  f_law_body : Fun K "_law_body" "_law_body" s_law_body A.a_law_body A.d_law_body
  b_law_body : Binds K A.d_law_body ["_law_stream_here", "_law_state", "_law_around", "_law_depth"] []
  m_law_body : mg "_law_body" = some (.ref A.a_law_body)
  f_law_body_lines : Fun K "_law_body_lines" "_law_body_lines" s_law_body_lines A.a_law_body_lines A.d_law_body_lines
  b_law_body_lines : Binds K A.d_law_body_lines ["_law_body_here", "_law_depth"] []
  m_law_body_lines : mg "_law_body_lines" = some (.ref A.a_law_body_lines)
  f_law_drawn_body : Fun K "_law_drawn_body" "_law_drawn_body" s_law_drawn_body A.a_law_drawn_body A.d_law_drawn_body
  b_law_drawn_body : Binds K A.d_law_drawn_body ["_law_script", "_law_first", "_law_count"] []
  m_law_drawn_body : mg "_law_drawn_body" = some (.ref A.a_law_drawn_body)
  f_law : Fun K "law" "law" s_law A.a_law A.d_law
  b_law : Binds K A.d_law ["_law_script"] []
  m_law : mg "law" = some (.ref A.a_law)
  g_SyntaxFault : mg "SyntaxFault" = some (.ref A.c_SyntaxFault)
  g_BadLine : mg "BadLine" = some (.ref A.c_BadLine)
  g_Reader : mg "Reader" = some (.ref A.c_Reader)
  g_Open : mg "Open" = some (.ref A.c_Open)
  cl_Reader : Cls K A.c_Reader
  n_Reader_signs : NoAttr K A.c_Reader "signs"
  n_Reader_place : NoAttr K A.c_Reader "place"
  mk_Reader : Mk K A.c_Reader A.a_Reader__init
  cl_Open : Cls K A.c_Open
  n_Open_head : NoAttr K A.c_Open "head"
  n_Open_then_body : NoAttr K A.c_Open "then_body"
  n_Open_body : NoAttr K A.c_Open "body"
  mk_Open : Mk K A.c_Open A.a_Open__init
  kp_SyntaxFault : PySem.W.keepIn K (.ref A.c_SyntaxFault) = true
  r1_SyntaxFault : PySem.W.subIn K (.ref A.c_SyntaxFault) (.type "BaseException") = some true
  r2_SyntaxFault : PySem.W.typeIn K (.ref A.c_SyntaxFault) = some (.type "type")
  ic_SyntaxFault : PySem.W.isClsIn K A.c_SyntaxFault = true
  ss_SyntaxFault : PySem.W.subIn K (.ref A.c_SyntaxFault) (.ref A.c_SyntaxFault) = some true
  x_BadLine : PySem.W.excIn K A.c_BadLine [.type "ValueError", .type "Exception", .type "BaseException", .type "object"] "ValueError.__new__" = true
  kp_BadLine : PySem.W.keepIn K (.ref A.c_BadLine) = true
  r1_BadLine : PySem.W.subIn K (.ref A.c_BadLine) (.type "BaseException") = some true
  r2_BadLine : PySem.W.typeIn K (.ref A.c_BadLine) = some (.type "type")
  ic_BadLine : PySem.W.isClsIn K A.c_BadLine = true
  ss_BadLine : PySem.W.subIn K (.ref A.c_BadLine) (.ref A.c_BadLine) = some true
  k_LETTERS : mg "LETTERS" = some (.str (Str.ofString "abcdefghijklmnopqrstuvwxyz") A.t_LETTERS)
  k_DIGITS : mg "DIGITS" = some (.str (Str.ofString "0123456789") A.t_DIGITS)
  k_SYMBOLS : mg "SYMBOLS" = some (.str (Str.ofString "(){}:=+-*<") A.t_SYMBOLS)
  k_KEYWORDS : GTup K mg "KEYWORDS" d_KEYWORDS
  k_MOST_LETTERS : mg "MOST_LETTERS" = some (.int 8 A.t_MOST_LETTERS)
  k_MOST_NUMBER : mg "MOST_NUMBER" = some (.int 1000000 A.t_MOST_NUMBER)
  k_MOST_HEIGHT : mg "MOST_HEIGHT" = some (.int 20 A.t_MOST_HEIGHT)
  k_MOST_OPEN : mg "MOST_OPEN" = some (.int 20 A.t_MOST_OPEN)
  k_LEVELS : GDic w K mg "LEVELS" d_LEVELS
  k_MOST_DEPTH : mg "MOST_DEPTH" = some (.int 60 A.t_MOST_DEPTH)
  z_abs : mg "abs" = none
  z_bool : mg "bool" = none
  z_enumerate : mg "enumerate" = none
  z_int : mg "int" = none
  z_isinstance : mg "isinstance" = none
  z_len : mg "len" = none
  z_list : mg "list" = none
  z_max : mg "max" = none
  z_range : mg "range" = none
  z_str : mg "str" = none
  z_tuple : mg "tuple" = none
section
variable {P : Program} {w : World} {K : PySem.W.Frag} {mg : Str → Option Value} {base : Heap} {A : Ads}
abbrev N_run_end : List Str := ["line", "start", "chars", "end"]
theorem sc_run_end : FnScope N_run_end ["line", "start", "chars"] (defScope s_run_end) := ⟨rfl, rfl, rfl, by decide +kernel, rfl, by decide +kernel, by decide +kernel⟩
def w_run_end (A : Ads) : DS :=
    (wSeq (wAsg (wVar 1) (gN 3))
    (wSeq (wWhile (wAnd (wTst (wOp ltD (wVar 3) (wApp lenD (wCons (wVar 0) wNil)))) (wTst (wOp (inD false) (wOp ixD (wVar 0) (wVar 3)) (wVar 2)))) (wAug 3 iaddD (wC (.int 1))))
    (wRet (wVar 3))))
theorem der_run_end (T : Txt w K mg A) {k : Nat} (cdv : Value) (A0 : Around) (outer : List PySem.Env) (s : Shared) (H : Hp) (E : XK) (hr : Room k (A0.deeper (envOfC "run_end" (defScope s_run_end) s.heap.objs.size A.a_run_end cdv))) :
    QSs (cxOf (L2.CX P w) P w K mg base N_run_end "run_end" (defScope s_run_end) A.a_run_end cdv A0 outer s H E) (fun c od _ H => E c od H) (defBody s_run_end) (w_run_end A) := by
  have nd := sc_run_end.nd
  have tk : Takes (cxOf (L2.CX P w) P w K mg base N_run_end "run_end" (defScope s_run_end) A.a_run_end cdv A0 outer s H E) (fun c od _ H => E c od H) := takes_of rfl rfl rfl rfl
  exact (qss_cons (qs_set 3 nd (qe_var 1))
    (qss_cons (qs_while (passes_of rfl) (qt_bool (qw_and (qt_cmp op_lt o2_lt (qe_var 3) (qe_len rfl T.z_len (qe_var 0)) (nomark _)) (qw_and1 (qt_cmp (op_inAll (hu65 hr)) o2_in (qe_ix (qe_var 0) (qe_var 3)) (qe_var 2) (by with_unfolding_all rfl))))) (qss_one (qs_aug 3 nd qe_int ip_add o2_iadd)))
    (qss_one (qs_ret (qe_var 3)))))
abbrev N_number_of : List Str := ["digits", "least", "most"]
theorem sc_number_of : FnScope N_number_of ["digits", "least", "most"] (defScope s_number_of) := ⟨rfl, rfl, rfl, by decide +kernel, rfl, by decide +kernel, by decide +kernel⟩
def w_number_of (A : Ads) : DS :=
    (wSeq (wIfS (wOr (wTst (wOp eqD (wVar 0) (wC (.str (tx ""))))) (wOr (wTst (wOp gtD (wApp lenD (wCons (wVar 0) wNil)) (wC (.int 7)))) (wAnd (wTst (wOp eqD (wOp ixD (wVar 0) (wC (.int 0))) (wC (.str (tx "0"))))) (wTst (wOp gtD (wApp lenD (wCons (wVar 0) wNil)) (wC (.int 1))))))) (wRaise A.c_BadLine) wNext)
    (wSeq (wIfS (wNot (wTst (wChain leD leD (wVar 1) (wApp intOf (wCons (wVar 0) wNil)) (wVar 2)))) (wRaise A.c_BadLine) wNext)
    (wRet (wApp intOf (wCons (wVar 0) wNil)))))
theorem der_number_of (T : Txt w K mg A) {k : Nat} (cdv : Value) (A0 : Around) (outer : List PySem.Env) (s : Shared) (H : Hp) (E : XK) (hr : Room k (A0.deeper (envOfC "number_of" (defScope s_number_of) s.heap.objs.size A.a_number_of cdv))) :
    QSs (cxOf (L2.CX P w) P w K mg base N_number_of "number_of" (defScope s_number_of) A.a_number_of cdv A0 outer s H E) (fun c od _ H => E c od H) (defBody s_number_of) (w_number_of A) := by
  have nd := sc_number_of.nd
  have tk : Takes (cxOf (L2.CX P w) P w K mg base N_number_of "number_of" (defScope s_number_of) A.a_number_of cdv A0 outer s H E) (fun c od _ H => E c od H) := takes_of rfl rfl rfl rfl
  exact (qss_cons (qs_if (qt_bool (qw_or (qt_cmp (op_eqD (hu64 hr)) o2_eq (qe_var 0) qe_str (nomark _)) (qw_or (qt_cmp op_gt o2_gt (qe_len rfl T.z_len (qe_var 0)) qe_int (nomark _)) (qw_or1 (qt_bool (qw_and (qt_cmp (op_eqD (hu64 hr)) o2_eq (qe_ix (qe_var 0) qe_int) qe_str (nomark _)) (qw_and1 (qt_cmp op_gt o2_gt (qe_len rfl T.z_len (qe_var 0)) qe_int (nomark _))))))))) (qss_one (qs_raise rfl tk PySem.F.excBase_ValueError T.x_BadLine T.g_BadLine T.kp_BadLine (raises_own T.r1_BadLine T.r2_BadLine) rfl)) qss_nil)
    (qss_cons (qs_if (qt_not (qt_chain op_le o2_le op_le o2_le (qe_var 1) (qe_callTy call_intAll ol_int rfl T.z_int (show bootBuiltins "int" = some (.type "int") by decide +kernel) (qa_cons (qe_var 0) qa_nil)) (qe_var 2))) (qss_one (qs_raise rfl tk PySem.F.excBase_ValueError T.x_BadLine T.g_BadLine T.kp_BadLine (raises_own T.r1_BadLine T.r2_BadLine) rfl)) qss_nil)
    (qss_one (qs_ret (qe_callTy call_intAll ol_int rfl T.z_int (show bootBuiltins "int" = some (.type "int") by decide +kernel) (qa_cons (qe_var 0) qa_nil))))))
abbrev N_word_end : List Str := ["line", "start", "end", "last"]
theorem sc_word_end : FnScope N_word_end ["line", "start"] (defScope s_word_end) := ⟨rfl, rfl, rfl, by decide +kernel, rfl, by decide +kernel, by decide +kernel⟩
def w_word_end (A : Ads) (p_run_end : SpD) (p_number_of : SpD) : DS :=
    (wSeq (wAsg (wCall p_run_end (wCons (wVar 0) (wCons (wVar 1) (wCons (wC (.str (tx "abcdefghijklmnopqrstuvwxyz"))) wNil)))) (gN 2))
    (wSeq (wIfS (wTst (wOp gtD (wOp subD (wVar 2) (wVar 1)) (wC (.int 8)))) (wRaise A.c_BadLine) wNext)
    (wSeq (wIfS (wAnd (wTst (wOp ltD (wVar 2) (wApp lenD (wCons (wVar 0) wNil)))) (wTst (wOp eqD (wOp ixD (wVar 0) (wVar 2)) (wC (.str (tx ".")))))) (wSeq (wAsg (wCall p_run_end (wCons (wVar 0) (wCons (wOp addD (wVar 2) (wC (.int 1))) (wCons (wC (.str (tx "0123456789"))) wNil)))) (gN 3))
    (wSeq (wEx (wCall p_number_of (wCons (wSl (wVar 0) (wSo (wOp addD (wVar 2) (wC (.int 1)))) (wSo (wVar 3))) (wCons (wC (.int 2)) (wCons (wC (.int 99)) wNil)))))
    (wRet (wVar 3)))) wNext)
    (wRet (wVar 2)))))
theorem der_word_end (T : Txt w K mg A) {k : Nat} {k_run_end : Nat} {p_run_end : SpD} (G_run_end : FnD P w K mg base k_run_end A.a_run_end A.d_run_end ["line", "start", "chars"] p_run_end) (h_run_end : k_run_end ≤ k) {k_number_of : Nat} {p_number_of : SpD} (G_number_of : FnD P w K mg base k_number_of A.a_number_of A.d_number_of ["digits", "least", "most"] p_number_of) (h_number_of : k_number_of ≤ k) (cdv : Value) (A0 : Around) (outer : List PySem.Env) (s : Shared) (H : Hp) (E : XK) (hr : Room k (A0.deeper (envOfC "word_end" (defScope s_word_end) s.heap.objs.size A.a_word_end cdv))) :
    QSs (cxOf (L2.CX P w) P w K mg base N_word_end "word_end" (defScope s_word_end) A.a_word_end cdv A0 outer s H E) (fun c od _ H => E c od H) (defBody s_word_end) (w_word_end A p_run_end p_number_of) := by
  have nd := sc_word_end.nd
  have tk : Takes (cxOf (L2.CX P w) P w K mg base N_word_end "word_end" (defScope s_word_end) A.a_word_end cdv A0 outer s H E) (fun c od _ H => E c od H) := takes_of rfl rfl rfl rfl
  exact (qss_cons (qs_set 2 nd (qe_call tk G_run_end (hr.mono h_run_end) rfl T.m_run_end T.f_run_end.kp T.b_run_end (qa_cons (qe_var 0) (qa_cons (qe_var 1) (qa_cons (qe_gstr rfl T.k_LETTERS) qa_nil)))))
    (qss_cons (qs_if (qt_cmp op_gt o2_gt (qe_sub (qe_var 2) (qe_var 1)) (qe_gint rfl T.k_MOST_LETTERS) (nomark _)) (qss_one (qs_raise rfl tk PySem.F.excBase_ValueError T.x_BadLine T.g_BadLine T.kp_BadLine (raises_own T.r1_BadLine T.r2_BadLine) rfl)) qss_nil)
    (qss_cons (qs_if (qt_bool (qw_and (qt_cmp op_lt o2_lt (qe_var 2) (qe_len rfl T.z_len (qe_var 0)) (nomark _)) (qw_and1 (qt_cmp (op_eqD (hu64 hr)) o2_eq (qe_ix (qe_var 0) (qe_var 2)) qe_str (nomark _))))) (qss_cons (qs_set 3 nd (qe_call tk G_run_end (hr.mono h_run_end) rfl T.m_run_end T.f_run_end.kp T.b_run_end (qa_cons (qe_var 0) (qa_cons (qe_add (qe_var 2) qe_int) (qa_cons (qe_gstr rfl T.k_DIGITS) qa_nil)))))
    (qss_cons (qs_expr (qe_call tk G_number_of (hr.mono h_number_of) rfl T.m_number_of T.f_number_of.kp T.b_number_of (qa_cons (qe_sl (qe_var 0) (qo_some (qe_add (qe_var 2) qe_int)) (qo_some (qe_var 3))) (qa_cons qe_int (qa_cons qe_int qa_nil)))))
    (qss_one (qs_ret (qe_var 3))))) qss_nil)
    (qss_one (qs_ret (qe_var 2))))))
abbrev N_signs_of : List Str := ["line", "signs", "index", "char", "end"]
theorem sc_signs_of : FnScope N_signs_of ["line"] (defScope s_signs_of) := ⟨rfl, rfl, rfl, by decide +kernel, rfl, by decide +kernel, by decide +kernel⟩
def w_signs_of (A : Ads) (p_word_end : SpD) (p_run_end : SpD) (p_number_of : SpD) : DS :=
    (wSeq (wAsg (wLst wNil) (gN 1))
    (wSeq (wAsg (wC (.int 0)) (gN 2))
    (wSeq (wWhile (wTst (wOp ltD (wVar 2) (wApp lenD (wCons (wVar 0) wNil)))) (wSeq (wAsg (wOp ixD (wVar 0) (wVar 2)) (gN 3))
    (wSeq (wAsg (wOp addD (wVar 2) (wC (.int 1))) (gN 4))
    (wSeq (wIfS (wTst (wOp (inD false) (wVar 3) (wC (.str (tx "abcdefghijklmnopqrstuvwxyz"))))) (wSeq (wAsg (wCall p_word_end (wCons (wVar 0) (wCons (wVar 2) wNil))) (gN 4))
    (wEx (wBM "list" appendD (wVar 1) (wCons (wTup (wCons (wC (.str (tx "word"))) (wCons (wSl (wVar 0) (wSo (wVar 2)) (wSo (wVar 4))) wNil))) wNil)))) (wIfS (wTst (wOp (inD false) (wVar 3) (wC (.str (tx "0123456789"))))) (wSeq (wAsg (wCall p_run_end (wCons (wVar 0) (wCons (wVar 2) (wCons (wC (.str (tx "0123456789"))) wNil)))) (gN 4))
    (wEx (wBM "list" appendD (wVar 1) (wCons (wTup (wCons (wC (.str (tx "number"))) (wCons (wCall p_number_of (wCons (wSl (wVar 0) (wSo (wVar 2)) (wSo (wVar 4))) (wCons (wC (.int 0)) (wCons (wC (.int 1000000)) wNil)))) wNil))) wNil)))) (wIfS (wTst (wOp (inD false) (wVar 3) (wC (.str (tx "(){}:=+-*<"))))) (wEx (wBM "list" appendD (wVar 1) (wCons (wTup (wCons (wC (.str (tx "symbol"))) (wCons (wVar 3) wNil))) wNil))) (wIfS (wTst (wOp neD (wVar 3) (wC (.str (tx " "))))) (wRaise A.c_BadLine) wNext))))
    (wAsg (wVar 4) (gN 2))))))
    (wRet (wVar 1)))))
theorem der_signs_of (T : Txt w K mg A) {k : Nat} {k_word_end : Nat} {p_word_end : SpD} (G_word_end : FnD P w K mg base k_word_end A.a_word_end A.d_word_end ["line", "start"] p_word_end) (h_word_end : k_word_end ≤ k) {k_run_end : Nat} {p_run_end : SpD} (G_run_end : FnD P w K mg base k_run_end A.a_run_end A.d_run_end ["line", "start", "chars"] p_run_end) (h_run_end : k_run_end ≤ k) {k_number_of : Nat} {p_number_of : SpD} (G_number_of : FnD P w K mg base k_number_of A.a_number_of A.d_number_of ["digits", "least", "most"] p_number_of) (h_number_of : k_number_of ≤ k) (cdv : Value) (A0 : Around) (outer : List PySem.Env) (s : Shared) (H : Hp) (E : XK) (hr : Room k (A0.deeper (envOfC "signs_of" (defScope s_signs_of) s.heap.objs.size A.a_signs_of cdv))) :
    QSs (cxOf (L2.CX P w) P w K mg base N_signs_of "signs_of" (defScope s_signs_of) A.a_signs_of cdv A0 outer s H E) (fun c od _ H => E c od H) (defBody s_signs_of) (w_signs_of A p_word_end p_run_end p_number_of) := by
  have nd := sc_signs_of.nd
  have tk : Takes (cxOf (L2.CX P w) P w K mg base N_signs_of "signs_of" (defScope s_signs_of) A.a_signs_of cdv A0 outer s H E) (fun c od _ H => E c od H) := takes_of rfl rfl rfl rfl
  exact (qss_cons (qs_set 1 nd (qe_lst qa_nil))
    (qss_cons (qs_set 2 nd qe_int)
    (qss_cons (qs_while (passes_of rfl) (qt_cmp op_lt o2_lt (qe_var 2) (qe_len rfl T.z_len (qe_var 0)) (nomark _)) (qss_cons (qs_set 3 nd (qe_ix (qe_var 0) (qe_var 2)))
    (qss_cons (qs_set 4 nd (qe_add (qe_var 2) qe_int))
    (qss_cons (qs_if (qt_cmp (op_inAll (hu65 hr)) o2_in (qe_var 3) (qe_gstr rfl T.k_LETTERS) (by with_unfolding_all rfl)) (qss_cons (qs_set 4 nd (qe_call tk G_word_end (hr.mono h_word_end) rfl T.m_word_end T.f_word_end.kp T.b_word_end (qa_cons (qe_var 0) (qa_cons (qe_var 2) qa_nil))))
    (qss_one (qs_expr (qe_append (qe_var 1) (qe_tup (qa_cons qe_str (qa_cons (qe_sl (qe_var 0) (qo_some (qe_var 2)) (qo_some (qe_var 4))) qa_nil))))))) (qss_one (qs_if (qt_cmp (op_inAll (hu65 hr)) o2_in (qe_var 3) (qe_gstr rfl T.k_DIGITS) (by with_unfolding_all rfl)) (qss_cons (qs_set 4 nd (qe_call tk G_run_end (hr.mono h_run_end) rfl T.m_run_end T.f_run_end.kp T.b_run_end (qa_cons (qe_var 0) (qa_cons (qe_var 2) (qa_cons (qe_gstr rfl T.k_DIGITS) qa_nil)))))
    (qss_one (qs_expr (qe_append (qe_var 1) (qe_tup (qa_cons qe_str (qa_cons (qe_call tk G_number_of (hr.mono h_number_of) rfl T.m_number_of T.f_number_of.kp T.b_number_of (qa_cons (qe_sl (qe_var 0) (qo_some (qe_var 2)) (qo_some (qe_var 4))) (qa_cons qe_int (qa_cons (qe_gint rfl T.k_MOST_NUMBER) qa_nil)))) qa_nil))))))) (qss_one (qs_if (qt_cmp (op_inAll (hu65 hr)) o2_in (qe_var 3) (qe_gstr rfl T.k_SYMBOLS) (by with_unfolding_all rfl)) (qss_one (qs_expr (qe_append (qe_var 1) (qe_tup (qa_cons qe_str (qa_cons (qe_var 3) qa_nil)))))) (qss_one (qs_if (qt_cmp (op_neD (hu64 hr)) o2_ne (qe_var 3) qe_str (nomark _)) (qss_one (qs_raise rfl tk PySem.F.excBase_ValueError T.x_BadLine T.g_BadLine T.kp_BadLine (raises_own T.r1_BadLine T.r2_BadLine) rfl)) qss_nil)))))))
    (qss_one (qs_set 2 nd (qe_var 4)))))))
    (qss_one (qs_ret (qe_var 1))))))
abbrev N_is_name : List Str := ["word"]
theorem sc_is_name : FnScope N_is_name ["word"] (defScope s_is_name) := ⟨rfl, rfl, rfl, by decide +kernel, rfl, by decide +kernel, by decide +kernel⟩
def w_is_name (A : Ads) : DS :=
    (wRet (wAndV (wOp (inD true) (wC (.str (tx "."))) (wVar 0)) (wOp (inD true) (wVar 0) (wC (.tup d_KEYWORDS)))))
theorem der_is_name (T : Txt w K mg A) {k : Nat} (cdv : Value) (A0 : Around) (outer : List PySem.Env) (s : Shared) (H : Hp) (E : XK) (hr : Room k (A0.deeper (envOfC "is_name" (defScope s_is_name) s.heap.objs.size A.a_is_name cdv))) :
    QSs (cxOf (L2.CX P w) P w K mg base N_is_name "is_name" (defScope s_is_name) A.a_is_name cdv A0 outer s H E) (fun c od _ H => E c od H) (defBody s_is_name) (w_is_name A) := by
  have nd := sc_is_name.nd
  have tk : Takes (cxOf (L2.CX P w) P w K mg base N_is_name "is_name" (defScope s_is_name) A.a_is_name cdv A0 outer s H E) (fun c od _ H => E c od H) := takes_of rfl rfl rfl rfl
  exact (qss_one (qs_ret (qe_and (qe_cmp (op_notInAll (hu65 hr)) o2_in qe_str (qe_var 0) (by with_unfolding_all rfl)) (qe_one (qe_cmp (op_notInAll (hu65 hr)) o2_in (qe_var 0) (qe_gtup T.k_KEYWORDS rfl) (by with_unfolding_all rfl))))))
abbrev N_is_label : List Str := ["word"]
theorem sc_is_label : FnScope N_is_label ["word"] (defScope s_is_label) := ⟨rfl, rfl, rfl, by decide +kernel, rfl, by decide +kernel, by decide +kernel⟩
def w_is_label (A : Ads) (p_is_name : SpD) : DS :=
    (wRet (wCall p_is_name (wCons (wOp ixD (wBM "str" splitD (wVar 0) (wCons (wC (.str (tx "."))) wNil)) (wC (.int 0))) wNil)))
theorem der_is_label (T : Txt w K mg A) {k : Nat} {k_is_name : Nat} {p_is_name : SpD} (G_is_name : FnD P w K mg base k_is_name A.a_is_name A.d_is_name ["word"] p_is_name) (h_is_name : k_is_name ≤ k) (cdv : Value) (A0 : Around) (outer : List PySem.Env) (s : Shared) (H : Hp) (E : XK) (hr : Room k (A0.deeper (envOfC "is_label" (defScope s_is_label) s.heap.objs.size A.a_is_label cdv))) :
    QSs (cxOf (L2.CX P w) P w K mg base N_is_label "is_label" (defScope s_is_label) A.a_is_label cdv A0 outer s H E) (fun c od _ H => E c od H) (defBody s_is_label) (w_is_label A p_is_name) := by
  have nd := sc_is_label.nd
  have tk : Takes (cxOf (L2.CX P w) P w K mg base N_is_label "is_label" (defScope s_is_label) A.a_is_label cdv A0 outer s H E) (fun c od _ H => E c od H) := takes_of rfl rfl rfl rfl
  exact (qss_one (qs_ret (qe_call tk G_is_name (hr.mono h_is_name) rfl T.m_is_name T.f_is_name.kp T.b_is_name (qa_cons (qe_ix (qe_strm PySem.F.slot_str_split PySem.F.type_str_split mt_splitS om_split (qe_var 0) qe_str) qe_int) qa_nil))))
abbrev N_Reader__init : List Str := ["self", "signs"]
theorem sc_Reader__init : FnScope N_Reader__init ["self", "signs"] (defScope s_Reader__init) := ⟨rfl, rfl, rfl, by decide +kernel, rfl, by decide +kernel, by decide +kernel⟩
def w_Reader__init (A : Ads) : DS :=
    (wSeq (wSetF A.c_Reader "signs" (wVar 0) (wVar 1))
    (wSetF A.c_Reader "place" (wVar 0) (wC (.int 0))))
theorem der_Reader__init (T : Txt w K mg A) {k : Nat} (cdv : Value) (A0 : Around) (outer : List PySem.Env) (s : Shared) (H : Hp) (E : XK) (hr : Room k (A0.deeper (envOfC "Reader.__init__" (defScope s_Reader__init) s.heap.objs.size A.a_Reader__init cdv))) :
    QSs (cxOf (L2.CX P w) P w K mg base N_Reader__init "Reader.__init__" (defScope s_Reader__init) A.a_Reader__init cdv A0 outer s H E) (fun c od _ H => E c od H) (defBody s_Reader__init) (w_Reader__init A) := by
  have nd := sc_Reader__init.nd
  have tk : Takes (cxOf (L2.CX P w) P w K mg base N_Reader__init "Reader.__init__" (defScope s_Reader__init) A.a_Reader__init cdv A0 outer s H E) (fun c od _ H => E c od H) := takes_of rfl rfl rfl rfl
  exact (qss_cons (qs_fld (qe_var 0) (qe_var 1) T.cl_Reader T.n_Reader_signs)
    (qss_one (qs_fld (qe_var 0) qe_int T.cl_Reader T.n_Reader_place)))
abbrev N_Reader_peek : List Str := ["self"]
theorem sc_Reader_peek : FnScope N_Reader_peek ["self"] (defScope s_Reader_peek) := ⟨rfl, rfl, rfl, by decide +kernel, rfl, by decide +kernel, by decide +kernel⟩
def w_Reader_peek (A : Ads) : DS :=
    (wSeq (wIfS (wTst (wOp ltD (wFld A.c_Reader "place" (wVar 0)) (wApp lenD (wCons (wFld A.c_Reader "signs" (wVar 0)) wNil)))) (wRet (wOp ixD (wFld A.c_Reader "signs" (wVar 0)) (wFld A.c_Reader "place" (wVar 0)))) wNext)
    (wRet (wTup (wCons (wC .non) (wCons (wC .non) wNil)))))
theorem der_Reader_peek (T : Txt w K mg A) {k : Nat} (cdv : Value) (A0 : Around) (outer : List PySem.Env) (s : Shared) (H : Hp) (E : XK) (hr : Room k (A0.deeper (envOfC "Reader.peek" (defScope s_Reader_peek) s.heap.objs.size A.a_Reader_peek cdv))) :
    QSs (cxOf (L2.CX P w) P w K mg base N_Reader_peek "Reader.peek" (defScope s_Reader_peek) A.a_Reader_peek cdv A0 outer s H E) (fun c od _ H => E c od H) (defBody s_Reader_peek) (w_Reader_peek A) := by
  have nd := sc_Reader_peek.nd
  have tk : Takes (cxOf (L2.CX P w) P w K mg base N_Reader_peek "Reader.peek" (defScope s_Reader_peek) A.a_Reader_peek cdv A0 outer s H E) (fun c od _ H => E c od H) := takes_of rfl rfl rfl rfl
  exact (qss_cons (qs_if (qt_cmp op_lt o2_lt (qe_fld (qe_var 0) T.cl_Reader T.n_Reader_place) (qe_len rfl T.z_len (qe_fld (qe_var 0) T.cl_Reader T.n_Reader_signs)) (nomark _)) (qss_one (qs_ret (qe_ix (qe_fld (qe_var 0) T.cl_Reader T.n_Reader_signs) (qe_fld (qe_var 0) T.cl_Reader T.n_Reader_place)))) qss_nil)
    (qss_one (qs_ret (qe_tup (qa_cons qe_non (qa_cons qe_non qa_nil))))))
abbrev N_Reader_take : List Str := ["self", "sign"]
theorem sc_Reader_take : FnScope N_Reader_take ["self"] (defScope s_Reader_take) := ⟨rfl, rfl, rfl, by decide +kernel, rfl, by decide +kernel, by decide +kernel⟩
def w_Reader_take (A : Ads) (p_Reader_peek : SpD) : DS :=
    (wSeq (wAsg (wMeth A.c_Reader "peek" p_Reader_peek (wVar 0) wNil) (gN 1))
    (wSeq (wAugF A.c_Reader "place" iaddD (wVar 0) (wC (.int 1)))
    (wRet (wVar 1))))
theorem der_Reader_take (T : Txt w K mg A) {k : Nat} {k_Reader_peek : Nat} {p_Reader_peek : SpD} (G_Reader_peek : FnD P w K mg base k_Reader_peek A.a_Reader_peek A.d_Reader_peek ["self"] p_Reader_peek) (h_Reader_peek : k_Reader_peek ≤ k) (cdv : Value) (A0 : Around) (outer : List PySem.Env) (s : Shared) (H : Hp) (E : XK) (hr : Room k (A0.deeper (envOfC "Reader.take" (defScope s_Reader_take) s.heap.objs.size A.a_Reader_take cdv))) :
    QSs (cxOf (L2.CX P w) P w K mg base N_Reader_take "Reader.take" (defScope s_Reader_take) A.a_Reader_take cdv A0 outer s H E) (fun c od _ H => E c od H) (defBody s_Reader_take) (w_Reader_take A p_Reader_peek) := by
  have nd := sc_Reader_take.nd
  have tk : Takes (cxOf (L2.CX P w) P w K mg base N_Reader_take "Reader.take" (defScope s_Reader_take) A.a_Reader_take cdv A0 outer s H E) (fun c od _ H => E c od H) := takes_of rfl rfl rfl rfl
  exact (qss_cons (qs_set 1 nd (qe_meth0 _ tk (qe_var 0) T.cl_Reader T.me_Reader_peek G_Reader_peek (hr.mono h_Reader_peek) T.b_Reader_peek))
    (qss_cons (qs_fldaug (qe_var 0) qe_int in_add o2_raddI T.cl_Reader T.n_Reader_place)
    (qss_one (qs_ret (qe_var 1)))))
abbrev N_Reader_skip : List Str := ["self", "kind", "value"]
theorem sc_Reader_skip : FnScope N_Reader_skip ["self", "kind", "value"] (defScope s_Reader_skip) := ⟨rfl, rfl, rfl, by decide +kernel, rfl, by decide +kernel, by decide +kernel⟩
def w_Reader_skip (A : Ads) (p_Reader_peek : SpD) : DS :=
    (wSeq (wIfS (wTst (wOp eqD (wMeth A.c_Reader "peek" p_Reader_peek (wVar 0) wNil) (wTup (wCons (wVar 1) (wCons (wVar 2) wNil))))) (wSeq (wAugF A.c_Reader "place" iaddD (wVar 0) (wC (.int 1)))
    (wRet (wC (.bl true)))) wNext)
    (wRet (wC (.bl false))))
theorem der_Reader_skip (T : Txt w K mg A) {k : Nat} {k_Reader_peek : Nat} {p_Reader_peek : SpD} (G_Reader_peek : FnD P w K mg base k_Reader_peek A.a_Reader_peek A.d_Reader_peek ["self"] p_Reader_peek) (h_Reader_peek : k_Reader_peek ≤ k) (cdv : Value) (A0 : Around) (outer : List PySem.Env) (s : Shared) (H : Hp) (E : XK) (hr : Room k (A0.deeper (envOfC "Reader.skip" (defScope s_Reader_skip) s.heap.objs.size A.a_Reader_skip cdv))) :
    QSs (cxOf (L2.CX P w) P w K mg base N_Reader_skip "Reader.skip" (defScope s_Reader_skip) A.a_Reader_skip cdv A0 outer s H E) (fun c od _ H => E c od H) (defBody s_Reader_skip) (w_Reader_skip A p_Reader_peek) := by
  have nd := sc_Reader_skip.nd
  have tk : Takes (cxOf (L2.CX P w) P w K mg base N_Reader_skip "Reader.skip" (defScope s_Reader_skip) A.a_Reader_skip cdv A0 outer s H E) (fun c od _ H => E c od H) := takes_of rfl rfl rfl rfl
  exact (qss_cons (qs_if (qt_cmp (op_eqD (hu64 hr)) o2_eq (qe_meth0 _ tk (qe_var 0) T.cl_Reader T.me_Reader_peek G_Reader_peek (hr.mono h_Reader_peek) T.b_Reader_peek) (qe_tup (qa_cons (qe_var 1) (qa_cons (qe_var 2) qa_nil))) (nomark _)) (qss_cons (qs_fldaug (qe_var 0) qe_int in_add o2_raddI T.cl_Reader T.n_Reader_place)
    (qss_one (qs_ret qe_bl))) qss_nil)
    (qss_one (qs_ret qe_bl)))
abbrev N_Reader_expect : List Str := ["self", "kind", "value"]
theorem sc_Reader_expect : FnScope N_Reader_expect ["self", "kind", "value"] (defScope s_Reader_expect) := ⟨rfl, rfl, rfl, by decide +kernel, rfl, by decide +kernel, by decide +kernel⟩
def w_Reader_expect (A : Ads) (p_Reader_skip : SpD) : DS :=
    (wIfS (wNot (wTru (wMeth A.c_Reader "skip" p_Reader_skip (wVar 0) (wCons (wVar 1) (wCons (wVar 2) wNil))))) (wRaise A.c_BadLine) wNext)
theorem der_Reader_expect (T : Txt w K mg A) {k : Nat} {k_Reader_skip : Nat} {p_Reader_skip : SpD} (G_Reader_skip : FnD P w K mg base k_Reader_skip A.a_Reader_skip A.d_Reader_skip ["self", "kind", "value"] p_Reader_skip) (h_Reader_skip : k_Reader_skip ≤ k) (cdv : Value) (A0 : Around) (outer : List PySem.Env) (s : Shared) (H : Hp) (E : XK) (hr : Room k (A0.deeper (envOfC "Reader.expect" (defScope s_Reader_expect) s.heap.objs.size A.a_Reader_expect cdv))) :
    QSs (cxOf (L2.CX P w) P w K mg base N_Reader_expect "Reader.expect" (defScope s_Reader_expect) A.a_Reader_expect cdv A0 outer s H E) (fun c od _ H => E c od H) (defBody s_Reader_expect) (w_Reader_expect A p_Reader_skip) := by
  have nd := sc_Reader_expect.nd
  have tk : Takes (cxOf (L2.CX P w) P w K mg base N_Reader_expect "Reader.expect" (defScope s_Reader_expect) A.a_Reader_expect cdv A0 outer s H E) (fun c od _ H => E c od H) := takes_of rfl rfl rfl rfl
  exact (qss_one (qs_if (qt_not (qt_tru (qe_meth _ tk (qe_var 0) T.cl_Reader T.me_Reader_skip G_Reader_skip (hr.mono h_Reader_skip) T.b_Reader_skip (qa_cons (qe_var 1) (qa_cons (qe_var 2) qa_nil))))) (qss_one (qs_raise rfl tk PySem.F.excBase_ValueError T.x_BadLine T.g_BadLine T.kp_BadLine (raises_own T.r1_BadLine T.r2_BadLine) rfl)) qss_nil))
abbrev N_Reader_take_name : List Str := ["self", "kind", "value"]
theorem sc_Reader_take_name : FnScope N_Reader_take_name ["self"] (defScope s_Reader_take_name) := ⟨rfl, rfl, rfl, by decide +kernel, rfl, by decide +kernel, by decide +kernel⟩
def w_Reader_take_name (A : Ads) (p_Reader_take : SpD) (p_is_name : SpD) : DS :=
    (wSeq (wAsg (wMeth A.c_Reader "take" p_Reader_take (wVar 0) wNil) (gT (gsC (gN 1) (gsC (gN 2) gsN))))
    (wSeq (wIfS (wOr (wTst (wOp neD (wVar 1) (wC (.str (tx "word"))))) (wNot (wTru (wCall p_is_name (wCons (wVar 2) wNil))))) (wRaise A.c_BadLine) wNext)
    (wRet (wVar 2))))
theorem der_Reader_take_name (T : Txt w K mg A) {k : Nat} {k_Reader_take : Nat} {p_Reader_take : SpD} (G_Reader_take : FnD P w K mg base k_Reader_take A.a_Reader_take A.d_Reader_take ["self"] p_Reader_take) (h_Reader_take : k_Reader_take ≤ k) {k_is_name : Nat} {p_is_name : SpD} (G_is_name : FnD P w K mg base k_is_name A.a_is_name A.d_is_name ["word"] p_is_name) (h_is_name : k_is_name ≤ k) (cdv : Value) (A0 : Around) (outer : List PySem.Env) (s : Shared) (H : Hp) (E : XK) (hr : Room k (A0.deeper (envOfC "Reader.take_name" (defScope s_Reader_take_name) s.heap.objs.size A.a_Reader_take_name cdv))) :
    QSs (cxOf (L2.CX P w) P w K mg base N_Reader_take_name "Reader.take_name" (defScope s_Reader_take_name) A.a_Reader_take_name cdv A0 outer s H E) (fun c od _ H => E c od H) (defBody s_Reader_take_name) (w_Reader_take_name A p_Reader_take p_is_name) := by
  have nd := sc_Reader_take_name.nd
  have tk : Takes (cxOf (L2.CX P w) P w K mg base N_Reader_take_name "Reader.take_name" (defScope s_Reader_take_name) A.a_Reader_take_name cdv A0 outer s H E) (fun c od _ H => E c od H) := takes_of rfl rfl rfl rfl
  exact (qss_cons (qs_asg [1, 2] (qe_meth0 _ tk (qe_var 0) T.cl_Reader T.me_Reader_take G_Reader_take (hr.mono h_Reader_take) T.b_Reader_take) (qg_tupn rfl (qgn_cons (qg_name 1 nd) gN_lo (qgn_cons (qg_name 2 nd) gN_lo qgn_nil))))
    (qss_cons (qs_if (qt_bool (qw_or (qt_cmp (op_neD (hu64 hr)) o2_ne (qe_var 1) qe_str (nomark _)) (qw_or1 (qt_not (qt_tru (qe_call tk G_is_name (hr.mono h_is_name) rfl T.m_is_name T.f_is_name.kp T.b_is_name (qa_cons (qe_var 2) qa_nil))))))) (qss_one (qs_raise rfl tk PySem.F.excBase_ValueError T.x_BadLine T.g_BadLine T.kp_BadLine (raises_own T.r1_BadLine T.r2_BadLine) rfl)) qss_nil)
    (qss_one (qs_ret (qe_var 2)))))
abbrev N_Reader_take_label : List Str := ["self", "kind", "value"]
theorem sc_Reader_take_label : FnScope N_Reader_take_label ["self"] (defScope s_Reader_take_label) := ⟨rfl, rfl, rfl, by decide +kernel, rfl, by decide +kernel, by decide +kernel⟩
def w_Reader_take_label (A : Ads) (p_Reader_take : SpD) (p_is_label : SpD) : DS :=
    (wSeq (wAsg (wMeth A.c_Reader "take" p_Reader_take (wVar 0) wNil) (gT (gsC (gN 1) (gsC (gN 2) gsN))))
    (wSeq (wIfS (wOr (wTst (wOp neD (wVar 1) (wC (.str (tx "word"))))) (wNot (wTru (wCall p_is_label (wCons (wVar 2) wNil))))) (wRaise A.c_BadLine) wNext)
    (wRet (wVar 2))))
theorem der_Reader_take_label (T : Txt w K mg A) {k : Nat} {k_Reader_take : Nat} {p_Reader_take : SpD} (G_Reader_take : FnD P w K mg base k_Reader_take A.a_Reader_take A.d_Reader_take ["self"] p_Reader_take) (h_Reader_take : k_Reader_take ≤ k) {k_is_label : Nat} {p_is_label : SpD} (G_is_label : FnD P w K mg base k_is_label A.a_is_label A.d_is_label ["word"] p_is_label) (h_is_label : k_is_label ≤ k) (cdv : Value) (A0 : Around) (outer : List PySem.Env) (s : Shared) (H : Hp) (E : XK) (hr : Room k (A0.deeper (envOfC "Reader.take_label" (defScope s_Reader_take_label) s.heap.objs.size A.a_Reader_take_label cdv))) :
    QSs (cxOf (L2.CX P w) P w K mg base N_Reader_take_label "Reader.take_label" (defScope s_Reader_take_label) A.a_Reader_take_label cdv A0 outer s H E) (fun c od _ H => E c od H) (defBody s_Reader_take_label) (w_Reader_take_label A p_Reader_take p_is_label) := by
  have nd := sc_Reader_take_label.nd
  have tk : Takes (cxOf (L2.CX P w) P w K mg base N_Reader_take_label "Reader.take_label" (defScope s_Reader_take_label) A.a_Reader_take_label cdv A0 outer s H E) (fun c od _ H => E c od H) := takes_of rfl rfl rfl rfl
  exact (qss_cons (qs_asg [1, 2] (qe_meth0 _ tk (qe_var 0) T.cl_Reader T.me_Reader_take G_Reader_take (hr.mono h_Reader_take) T.b_Reader_take) (qg_tupn rfl (qgn_cons (qg_name 1 nd) gN_lo (qgn_cons (qg_name 2 nd) gN_lo qgn_nil))))
    (qss_cons (qs_if (qt_bool (qw_or (qt_cmp (op_neD (hu64 hr)) o2_ne (qe_var 1) qe_str (nomark _)) (qw_or1 (qt_not (qt_tru (qe_call tk G_is_label (hr.mono h_is_label) rfl T.m_is_label T.f_is_label.kp T.b_is_label (qa_cons (qe_var 2) qa_nil))))))) (qss_one (qs_raise rfl tk PySem.F.excBase_ValueError T.x_BadLine T.g_BadLine T.kp_BadLine (raises_own T.r1_BadLine T.r2_BadLine) rfl)) qss_nil)
    (qss_one (qs_ret (qe_var 2)))))
abbrev N_Reader_finish : List Str := ["self"]
theorem sc_Reader_finish : FnScope N_Reader_finish ["self"] (defScope s_Reader_finish) := ⟨rfl, rfl, rfl, by decide +kernel, rfl, by decide +kernel, by decide +kernel⟩
def w_Reader_finish (A : Ads) : DS :=
    (wIfS (wTst (wOp ltD (wFld A.c_Reader "place" (wVar 0)) (wApp lenD (wCons (wFld A.c_Reader "signs" (wVar 0)) wNil)))) (wRaise A.c_BadLine) wNext)
theorem der_Reader_finish (T : Txt w K mg A) {k : Nat} (cdv : Value) (A0 : Around) (outer : List PySem.Env) (s : Shared) (H : Hp) (E : XK) (hr : Room k (A0.deeper (envOfC "Reader.finish" (defScope s_Reader_finish) s.heap.objs.size A.a_Reader_finish cdv))) :
    QSs (cxOf (L2.CX P w) P w K mg base N_Reader_finish "Reader.finish" (defScope s_Reader_finish) A.a_Reader_finish cdv A0 outer s H E) (fun c od _ H => E c od H) (defBody s_Reader_finish) (w_Reader_finish A) := by
  have nd := sc_Reader_finish.nd
  have tk : Takes (cxOf (L2.CX P w) P w K mg base N_Reader_finish "Reader.finish" (defScope s_Reader_finish) A.a_Reader_finish cdv A0 outer s H E) (fun c od _ H => E c od H) := takes_of rfl rfl rfl rfl
  exact (qss_one (qs_if (qt_cmp op_lt o2_lt (qe_fld (qe_var 0) T.cl_Reader T.n_Reader_place) (qe_len rfl T.z_len (qe_fld (qe_var 0) T.cl_Reader T.n_Reader_signs)) (nomark _)) (qss_one (qs_raise rfl tk PySem.F.excBase_ValueError T.x_BadLine T.g_BadLine T.kp_BadLine (raises_own T.r1_BadLine T.r2_BadLine) rfl)) qss_nil))
abbrev N_is_blank : List Str := ["line"]
theorem sc_is_blank : FnScope N_is_blank ["line"] (defScope s_is_blank) := ⟨rfl, rfl, rfl, by decide +kernel, rfl, by decide +kernel, by decide +kernel⟩
def w_is_blank (A : Ads) : DS :=
    (wRet (wOp eqD (wBM "str" stripD (wVar 0) (wCons (wC (.str (tx " "))) wNil)) (wC (.str (tx "")))))
theorem der_is_blank (T : Txt w K mg A) {k : Nat} (cdv : Value) (A0 : Around) (outer : List PySem.Env) (s : Shared) (H : Hp) (E : XK) (hr : Room k (A0.deeper (envOfC "is_blank" (defScope s_is_blank) s.heap.objs.size A.a_is_blank cdv))) :
    QSs (cxOf (L2.CX P w) P w K mg base N_is_blank "is_blank" (defScope s_is_blank) A.a_is_blank cdv A0 outer s H E) (fun c od _ H => E c od H) (defBody s_is_blank) (w_is_blank A) := by
  have nd := sc_is_blank.nd
  have tk : Takes (cxOf (L2.CX P w) P w K mg base N_is_blank "is_blank" (defScope s_is_blank) A.a_is_blank cdv A0 outer s H E) (fun c od _ H => E c od H) := takes_of rfl rfl rfl rfl
  exact (qss_one (qs_ret (qe_cmp (op_eqD (hu64 hr)) o2_eq (qe_strm PySem.F.slot_str_strip PySem.F.type_str_strip mt_stripChars om_strip (qe_var 0) qe_str) qe_str (nomark _))))
abbrev N_joined : List Str := ["sign", "left", "right", "heights", "height"]
theorem sc_joined : FnScope N_joined ["sign", "left", "right", "heights"] (defScope s_joined) := ⟨rfl, rfl, rfl, by decide +kernel, rfl, by decide +kernel, by decide +kernel⟩
def w_joined (A : Ads) : DS :=
    (wSeq (wAsg (wOp addD (wC (.int 1)) (wApp maxTD (wCons (wVar 3) wNil))) (gN 4))
    (wSeq (wIfS (wTst (wOp gtD (wVar 4) (wC (.int 20)))) (wRaise A.c_BadLine) wNext)
    (wRet (wTup (wCons (wTup (wCons (wVar 0) (wCons (wVar 1) (wCons (wVar 2) wNil)))) (wCons (wVar 4) wNil))))))
theorem der_joined (T : Txt w K mg A) {k : Nat} (cdv : Value) (A0 : Around) (outer : List PySem.Env) (s : Shared) (H : Hp) (E : XK) (hr : Room k (A0.deeper (envOfC "joined" (defScope s_joined) s.heap.objs.size A.a_joined cdv))) :
    QSs (cxOf (L2.CX P w) P w K mg base N_joined "joined" (defScope s_joined) A.a_joined cdv A0 outer s H E) (fun c od _ H => E c od H) (defBody s_joined) (w_joined A) := by
  have nd := sc_joined.nd
  have tk : Takes (cxOf (L2.CX P w) P w K mg base N_joined "joined" (defScope s_joined) A.a_joined cdv A0 outer s H E) (fun c od _ H => E c od H) := takes_of rfl rfl rfl rfl
  exact (qss_cons (qs_set 4 nd (qe_add qe_int (qe_callB (call_maxT rfl) ol_maxT rfl T.z_max (show bootBuiltins "max" = some (.builtin "max") by decide +kernel) (qa_cons (qe_var 3) qa_nil))))
    (qss_cons (qs_if (qt_cmp op_gt o2_gt (qe_var 4) (qe_gint rfl T.k_MOST_HEIGHT) (nomark _)) (qss_one (qs_raise rfl tk PySem.F.excBase_ValueError T.x_BadLine T.g_BadLine T.kp_BadLine (raises_own T.r1_BadLine T.r2_BadLine) rfl)) qss_nil)
    (qss_one (qs_ret (qe_tup (qa_cons (qe_tup (qa_cons (qe_var 0) (qa_cons (qe_var 1) (qa_cons (qe_var 2) qa_nil)))) (qa_cons (qe_var 4) qa_nil)))))))
abbrev N_read_primary : List Str := ["reader", "opened", "found"]
theorem sc_read_primary : FnScope N_read_primary ["reader", "opened"] (defScope s_read_primary) := ⟨rfl, rfl, rfl, by decide +kernel, rfl, by decide +kernel, by decide +kernel⟩
def w_read_primary (A : Ads) (p_Reader_skip : SpD) (p_read_comparison : SpD) (p_Reader_expect : SpD) (p_Reader_peek : SpD) (p_Reader_take : SpD) (p_Reader_take_name : SpD) : DS :=
    (wSeq (wIfS (wTru (wMeth A.c_Reader "skip" p_Reader_skip (wVar 0) (wCons (wC (.str (tx "symbol"))) (wCons (wC (.str (tx "("))) wNil)))) (wSeq (wIfS (wTst (wOp eqD (wVar 1) (wC (.int 20)))) (wRaise A.c_BadLine) wNext)
    (wSeq (wAsg (wCall p_read_comparison (wCons (wVar 0) (wCons (wOp addD (wVar 1) (wC (.int 1))) wNil))) (gN 2))
    (wSeq (wEx (wMeth A.c_Reader "expect" p_Reader_expect (wVar 0) (wCons (wC (.str (tx "symbol"))) (wCons (wC (.str (tx ")"))) wNil))))
    (wRet (wVar 2))))) wNext)
    (wSeq (wIfS (wTst (wOp eqD (wOp ixD (wMeth A.c_Reader "peek" p_Reader_peek (wVar 0) wNil) (wC (.int 0))) (wC (.str (tx "number"))))) (wRet (wTup (wCons (wTup (wCons (wC (.str (tx "number"))) (wCons (wOp ixD (wMeth A.c_Reader "take" p_Reader_take (wVar 0) wNil) (wC (.int 1))) wNil))) (wCons (wC (.int 1)) wNil)))) wNext)
    (wRet (wTup (wCons (wTup (wCons (wC (.str (tx "variable"))) (wCons (wMeth A.c_Reader "take_name" p_Reader_take_name (wVar 0) wNil) wNil))) (wCons (wC (.int 1)) wNil))))))
theorem der_read_primary (T : Txt w K mg A) {k : Nat} {k_Reader_skip : Nat} {p_Reader_skip : SpD} (G_Reader_skip : FnD P w K mg base k_Reader_skip A.a_Reader_skip A.d_Reader_skip ["self", "kind", "value"] p_Reader_skip) (h_Reader_skip : k_Reader_skip ≤ k) {k_read_comparison : Nat} {p_read_comparison : SpD} (G_read_comparison : FnD P w K mg base k_read_comparison A.a_read_comparison A.d_read_comparison ["reader", "opened"] p_read_comparison) (h_read_comparison : k_read_comparison ≤ k) {k_Reader_expect : Nat} {p_Reader_expect : SpD} (G_Reader_expect : FnD P w K mg base k_Reader_expect A.a_Reader_expect A.d_Reader_expect ["self", "kind", "value"] p_Reader_expect) (h_Reader_expect : k_Reader_expect ≤ k) {k_Reader_peek : Nat} {p_Reader_peek : SpD} (G_Reader_peek : FnD P w K mg base k_Reader_peek A.a_Reader_peek A.d_Reader_peek ["self"] p_Reader_peek) (h_Reader_peek : k_Reader_peek ≤ k) {k_Reader_take : Nat} {p_Reader_take : SpD} (G_Reader_take : FnD P w K mg base k_Reader_take A.a_Reader_take A.d_Reader_take ["self"] p_Reader_take) (h_Reader_take : k_Reader_take ≤ k) {k_Reader_take_name : Nat} {p_Reader_take_name : SpD} (G_Reader_take_name : FnD P w K mg base k_Reader_take_name A.a_Reader_take_name A.d_Reader_take_name ["self"] p_Reader_take_name) (h_Reader_take_name : k_Reader_take_name ≤ k) (cdv : Value) (A0 : Around) (outer : List PySem.Env) (s : Shared) (H : Hp) (E : XK) (hr : Room k (A0.deeper (envOfC "read_primary" (defScope s_read_primary) s.heap.objs.size A.a_read_primary cdv))) :
    QSs (cxOf (L2.CX P w) P w K mg base N_read_primary "read_primary" (defScope s_read_primary) A.a_read_primary cdv A0 outer s H E) (fun c od _ H => E c od H) (defBody s_read_primary) (w_read_primary A p_Reader_skip p_read_comparison p_Reader_expect p_Reader_peek p_Reader_take p_Reader_take_name) := by
  have nd := sc_read_primary.nd
  have tk : Takes (cxOf (L2.CX P w) P w K mg base N_read_primary "read_primary" (defScope s_read_primary) A.a_read_primary cdv A0 outer s H E) (fun c od _ H => E c od H) := takes_of rfl rfl rfl rfl
  exact (qss_cons (qs_if (qt_tru (qe_meth _ tk (qe_var 0) T.cl_Reader T.me_Reader_skip G_Reader_skip (hr.mono h_Reader_skip) T.b_Reader_skip (qa_cons qe_str (qa_cons qe_str qa_nil)))) (qss_cons (qs_if (qt_cmp (op_eqD (hu64 hr)) o2_eq (qe_var 1) (qe_gint rfl T.k_MOST_OPEN) (nomark _)) (qss_one (qs_raise rfl tk PySem.F.excBase_ValueError T.x_BadLine T.g_BadLine T.kp_BadLine (raises_own T.r1_BadLine T.r2_BadLine) rfl)) qss_nil)
    (qss_cons (qs_set 2 nd (qe_call tk G_read_comparison (hr.mono h_read_comparison) rfl T.m_read_comparison T.f_read_comparison.kp T.b_read_comparison (qa_cons (qe_var 0) (qa_cons (qe_add (qe_var 1) qe_int) qa_nil))))
    (qss_cons (qs_expr (qe_meth _ tk (qe_var 0) T.cl_Reader T.me_Reader_expect G_Reader_expect (hr.mono h_Reader_expect) T.b_Reader_expect (qa_cons qe_str (qa_cons qe_str qa_nil))))
    (qss_one (qs_ret (qe_var 2)))))) qss_nil)
    (qss_cons (qs_if (qt_cmp (op_eqD (hu64 hr)) o2_eq (qe_ix (qe_meth0 _ tk (qe_var 0) T.cl_Reader T.me_Reader_peek G_Reader_peek (hr.mono h_Reader_peek) T.b_Reader_peek) qe_int) qe_str (nomark _)) (qss_one (qs_ret (qe_tup (qa_cons (qe_tup (qa_cons qe_str (qa_cons (qe_ix (qe_meth0 _ tk (qe_var 0) T.cl_Reader T.me_Reader_take G_Reader_take (hr.mono h_Reader_take) T.b_Reader_take) qe_int) qa_nil))) (qa_cons qe_int qa_nil))))) qss_nil)
    (qss_one (qs_ret (qe_tup (qa_cons (qe_tup (qa_cons qe_str (qa_cons (qe_meth0 _ tk (qe_var 0) T.cl_Reader T.me_Reader_take_name G_Reader_take_name (hr.mono h_Reader_take_name) T.b_Reader_take_name) qa_nil))) (qa_cons qe_int qa_nil)))))))
abbrev N_read_product : List Str := ["reader", "opened", "left", "height", "right", "other"]
theorem sc_read_product : FnScope N_read_product ["reader", "opened"] (defScope s_read_product) := ⟨rfl, rfl, rfl, by decide +kernel, rfl, by decide +kernel, by decide +kernel⟩
def w_read_product (A : Ads) (p_read_primary : SpD) (p_Reader_skip : SpD) (p_joined : SpD) : DS :=
    (wSeq (wAsg (wCall p_read_primary (wCons (wVar 0) (wCons (wVar 1) wNil))) (gT (gsC (gN 2) (gsC (gN 3) gsN))))
    (wSeq (wWhile (wTru (wMeth A.c_Reader "skip" p_Reader_skip (wVar 0) (wCons (wC (.str (tx "symbol"))) (wCons (wC (.str (tx "*"))) wNil)))) (wSeq (wAsg (wCall p_read_primary (wCons (wVar 0) (wCons (wVar 1) wNil))) (gT (gsC (gN 4) (gsC (gN 5) gsN))))
    (wAsg (wCall p_joined (wCons (wC (.str (tx "*"))) (wCons (wVar 2) (wCons (wVar 4) (wCons (wTup (wCons (wVar 3) (wCons (wVar 5) wNil))) wNil))))) (gT (gsC (gN 2) (gsC (gN 3) gsN))))))
    (wRet (wTup (wCons (wVar 2) (wCons (wVar 3) wNil))))))
theorem der_read_product (T : Txt w K mg A) {k : Nat} {k_read_primary : Nat} {p_read_primary : SpD} (G_read_primary : FnD P w K mg base k_read_primary A.a_read_primary A.d_read_primary ["reader", "opened"] p_read_primary) (h_read_primary : k_read_primary ≤ k) {k_Reader_skip : Nat} {p_Reader_skip : SpD} (G_Reader_skip : FnD P w K mg base k_Reader_skip A.a_Reader_skip A.d_Reader_skip ["self", "kind", "value"] p_Reader_skip) (h_Reader_skip : k_Reader_skip ≤ k) {k_joined : Nat} {p_joined : SpD} (G_joined : FnD P w K mg base k_joined A.a_joined A.d_joined ["sign", "left", "right", "heights"] p_joined) (h_joined : k_joined ≤ k) (cdv : Value) (A0 : Around) (outer : List PySem.Env) (s : Shared) (H : Hp) (E : XK) (hr : Room k (A0.deeper (envOfC "read_product" (defScope s_read_product) s.heap.objs.size A.a_read_product cdv))) :
    QSs (cxOf (L2.CX P w) P w K mg base N_read_product "read_product" (defScope s_read_product) A.a_read_product cdv A0 outer s H E) (fun c od _ H => E c od H) (defBody s_read_product) (w_read_product A p_read_primary p_Reader_skip p_joined) := by
  have nd := sc_read_product.nd
  have tk : Takes (cxOf (L2.CX P w) P w K mg base N_read_product "read_product" (defScope s_read_product) A.a_read_product cdv A0 outer s H E) (fun c od _ H => E c od H) := takes_of rfl rfl rfl rfl
  exact (qss_cons (qs_asg [2, 3] (qe_call tk G_read_primary (hr.mono h_read_primary) rfl T.m_read_primary T.f_read_primary.kp T.b_read_primary (qa_cons (qe_var 0) (qa_cons (qe_var 1) qa_nil))) (qg_tupn rfl (qgn_cons (qg_name 2 nd) gN_lo (qgn_cons (qg_name 3 nd) gN_lo qgn_nil))))
    (qss_cons (qs_while (passes_of rfl) (qt_tru (qe_meth _ tk (qe_var 0) T.cl_Reader T.me_Reader_skip G_Reader_skip (hr.mono h_Reader_skip) T.b_Reader_skip (qa_cons qe_str (qa_cons qe_str qa_nil)))) (qss_cons (qs_asg [4, 5] (qe_call tk G_read_primary (hr.mono h_read_primary) rfl T.m_read_primary T.f_read_primary.kp T.b_read_primary (qa_cons (qe_var 0) (qa_cons (qe_var 1) qa_nil))) (qg_tupn rfl (qgn_cons (qg_name 4 nd) gN_lo (qgn_cons (qg_name 5 nd) gN_lo qgn_nil))))
    (qss_one (qs_asg [2, 3] (qe_call tk G_joined (hr.mono h_joined) rfl T.m_joined T.f_joined.kp T.b_joined (qa_cons qe_str (qa_cons (qe_var 2) (qa_cons (qe_var 4) (qa_cons (qe_tup (qa_cons (qe_var 3) (qa_cons (qe_var 5) qa_nil))) qa_nil))))) (qg_tupn rfl (qgn_cons (qg_name 2 nd) gN_lo (qgn_cons (qg_name 3 nd) gN_lo qgn_nil)))))))
    (qss_one (qs_ret (qe_tup (qa_cons (qe_var 2) (qa_cons (qe_var 3) qa_nil)))))))
abbrev N_read_sum : List Str := ["reader", "opened", "left", "height", "sign", "right", "other"]
theorem sc_read_sum : FnScope N_read_sum ["reader", "opened"] (defScope s_read_sum) := ⟨rfl, rfl, rfl, by decide +kernel, rfl, by decide +kernel, by decide +kernel⟩
def w_read_sum (A : Ads) (p_read_product : SpD) (p_Reader_peek : SpD) (p_Reader_take : SpD) (p_joined : SpD) : DS :=
    (wSeq (wAsg (wCall p_read_product (wCons (wVar 0) (wCons (wVar 1) wNil))) (gT (gsC (gN 2) (gsC (gN 3) gsN))))
    (wSeq (wWhile (wTst (wOp (inD false) (wMeth A.c_Reader "peek" p_Reader_peek (wVar 0) wNil) (wTup (wCons (wTup (wCons (wC (.str (tx "symbol"))) (wCons (wC (.str (tx "+"))) wNil))) (wCons (wTup (wCons (wC (.str (tx "symbol"))) (wCons (wC (.str (tx "-"))) wNil))) wNil))))) (wSeq (wAsg (wOp ixD (wMeth A.c_Reader "take" p_Reader_take (wVar 0) wNil) (wC (.int 1))) (gN 4))
    (wSeq (wAsg (wCall p_read_product (wCons (wVar 0) (wCons (wVar 1) wNil))) (gT (gsC (gN 5) (gsC (gN 6) gsN))))
    (wAsg (wCall p_joined (wCons (wVar 4) (wCons (wVar 2) (wCons (wVar 5) (wCons (wTup (wCons (wVar 3) (wCons (wVar 6) wNil))) wNil))))) (gT (gsC (gN 2) (gsC (gN 3) gsN)))))))
    (wRet (wTup (wCons (wVar 2) (wCons (wVar 3) wNil))))))
theorem der_read_sum (T : Txt w K mg A) {k : Nat} {k_read_product : Nat} {p_read_product : SpD} (G_read_product : FnD P w K mg base k_read_product A.a_read_product A.d_read_product ["reader", "opened"] p_read_product) (h_read_product : k_read_product ≤ k) {k_Reader_peek : Nat} {p_Reader_peek : SpD} (G_Reader_peek : FnD P w K mg base k_Reader_peek A.a_Reader_peek A.d_Reader_peek ["self"] p_Reader_peek) (h_Reader_peek : k_Reader_peek ≤ k) {k_Reader_take : Nat} {p_Reader_take : SpD} (G_Reader_take : FnD P w K mg base k_Reader_take A.a_Reader_take A.d_Reader_take ["self"] p_Reader_take) (h_Reader_take : k_Reader_take ≤ k) {k_joined : Nat} {p_joined : SpD} (G_joined : FnD P w K mg base k_joined A.a_joined A.d_joined ["sign", "left", "right", "heights"] p_joined) (h_joined : k_joined ≤ k) (cdv : Value) (A0 : Around) (outer : List PySem.Env) (s : Shared) (H : Hp) (E : XK) (hr : Room k (A0.deeper (envOfC "read_sum" (defScope s_read_sum) s.heap.objs.size A.a_read_sum cdv))) :
    QSs (cxOf (L2.CX P w) P w K mg base N_read_sum "read_sum" (defScope s_read_sum) A.a_read_sum cdv A0 outer s H E) (fun c od _ H => E c od H) (defBody s_read_sum) (w_read_sum A p_read_product p_Reader_peek p_Reader_take p_joined) := by
  have nd := sc_read_sum.nd
  have tk : Takes (cxOf (L2.CX P w) P w K mg base N_read_sum "read_sum" (defScope s_read_sum) A.a_read_sum cdv A0 outer s H E) (fun c od _ H => E c od H) := takes_of rfl rfl rfl rfl
  exact (qss_cons (qs_asg [2, 3] (qe_call tk G_read_product (hr.mono h_read_product) rfl T.m_read_product T.f_read_product.kp T.b_read_product (qa_cons (qe_var 0) (qa_cons (qe_var 1) qa_nil))) (qg_tupn rfl (qgn_cons (qg_name 2 nd) gN_lo (qgn_cons (qg_name 3 nd) gN_lo qgn_nil))))
    (qss_cons (qs_while (passes_of rfl) (qt_cmp (op_inAll (hu65 hr)) o2_in (qe_meth0 _ tk (qe_var 0) T.cl_Reader T.me_Reader_peek G_Reader_peek (hr.mono h_Reader_peek) T.b_Reader_peek) (qe_tup (qa_cons (qe_tup (qa_cons qe_str (qa_cons qe_str qa_nil))) (qa_cons (qe_tup (qa_cons qe_str (qa_cons qe_str qa_nil))) qa_nil))) (by with_unfolding_all rfl)) (qss_cons (qs_set 4 nd (qe_ix (qe_meth0 _ tk (qe_var 0) T.cl_Reader T.me_Reader_take G_Reader_take (hr.mono h_Reader_take) T.b_Reader_take) qe_int))
    (qss_cons (qs_asg [5, 6] (qe_call tk G_read_product (hr.mono h_read_product) rfl T.m_read_product T.f_read_product.kp T.b_read_product (qa_cons (qe_var 0) (qa_cons (qe_var 1) qa_nil))) (qg_tupn rfl (qgn_cons (qg_name 5 nd) gN_lo (qgn_cons (qg_name 6 nd) gN_lo qgn_nil))))
    (qss_one (qs_asg [2, 3] (qe_call tk G_joined (hr.mono h_joined) rfl T.m_joined T.f_joined.kp T.b_joined (qa_cons (qe_var 4) (qa_cons (qe_var 2) (qa_cons (qe_var 5) (qa_cons (qe_tup (qa_cons (qe_var 3) (qa_cons (qe_var 6) qa_nil))) qa_nil))))) (qg_tupn rfl (qgn_cons (qg_name 2 nd) gN_lo (qgn_cons (qg_name 3 nd) gN_lo qgn_nil))))))))
    (qss_one (qs_ret (qe_tup (qa_cons (qe_var 2) (qa_cons (qe_var 3) qa_nil)))))))
abbrev N_read_comparison : List Str := ["reader", "opened", "left", "height", "sign", "right", "other"]
theorem sc_read_comparison : FnScope N_read_comparison ["reader", "opened"] (defScope s_read_comparison) := ⟨rfl, rfl, rfl, by decide +kernel, rfl, by decide +kernel, by decide +kernel⟩
def w_read_comparison (A : Ads) (p_read_sum : SpD) (p_Reader_peek : SpD) (p_Reader_take : SpD) (p_joined : SpD) : DS :=
    (wSeq (wAsg (wCall p_read_sum (wCons (wVar 0) (wCons (wVar 1) wNil))) (gT (gsC (gN 2) (gsC (gN 3) gsN))))
    (wSeq (wIfS (wTst (wOp (inD false) (wMeth A.c_Reader "peek" p_Reader_peek (wVar 0) wNil) (wTup (wCons (wTup (wCons (wC (.str (tx "symbol"))) (wCons (wC (.str (tx "="))) wNil))) (wCons (wTup (wCons (wC (.str (tx "symbol"))) (wCons (wC (.str (tx "<"))) wNil))) wNil))))) (wSeq (wAsg (wOp ixD (wMeth A.c_Reader "take" p_Reader_take (wVar 0) wNil) (wC (.int 1))) (gN 4))
    (wSeq (wAsg (wCall p_read_sum (wCons (wVar 0) (wCons (wVar 1) wNil))) (gT (gsC (gN 5) (gsC (gN 6) gsN))))
    (wRet (wCall p_joined (wCons (wVar 4) (wCons (wVar 2) (wCons (wVar 5) (wCons (wTup (wCons (wVar 3) (wCons (wVar 6) wNil))) wNil)))))))) wNext)
    (wRet (wTup (wCons (wVar 2) (wCons (wVar 3) wNil))))))
theorem der_read_comparison (T : Txt w K mg A) {k : Nat} {k_read_sum : Nat} {p_read_sum : SpD} (G_read_sum : FnD P w K mg base k_read_sum A.a_read_sum A.d_read_sum ["reader", "opened"] p_read_sum) (h_read_sum : k_read_sum ≤ k) {k_Reader_peek : Nat} {p_Reader_peek : SpD} (G_Reader_peek : FnD P w K mg base k_Reader_peek A.a_Reader_peek A.d_Reader_peek ["self"] p_Reader_peek) (h_Reader_peek : k_Reader_peek ≤ k) {k_Reader_take : Nat} {p_Reader_take : SpD} (G_Reader_take : FnD P w K mg base k_Reader_take A.a_Reader_take A.d_Reader_take ["self"] p_Reader_take) (h_Reader_take : k_Reader_take ≤ k) {k_joined : Nat} {p_joined : SpD} (G_joined : FnD P w K mg base k_joined A.a_joined A.d_joined ["sign", "left", "right", "heights"] p_joined) (h_joined : k_joined ≤ k) (cdv : Value) (A0 : Around) (outer : List PySem.Env) (s : Shared) (H : Hp) (E : XK) (hr : Room k (A0.deeper (envOfC "read_comparison" (defScope s_read_comparison) s.heap.objs.size A.a_read_comparison cdv))) :
    QSs (cxOf (L2.CX P w) P w K mg base N_read_comparison "read_comparison" (defScope s_read_comparison) A.a_read_comparison cdv A0 outer s H E) (fun c od _ H => E c od H) (defBody s_read_comparison) (w_read_comparison A p_read_sum p_Reader_peek p_Reader_take p_joined) := by
  have nd := sc_read_comparison.nd
  have tk : Takes (cxOf (L2.CX P w) P w K mg base N_read_comparison "read_comparison" (defScope s_read_comparison) A.a_read_comparison cdv A0 outer s H E) (fun c od _ H => E c od H) := takes_of rfl rfl rfl rfl
  exact (qss_cons (qs_asg [2, 3] (qe_call tk G_read_sum (hr.mono h_read_sum) rfl T.m_read_sum T.f_read_sum.kp T.b_read_sum (qa_cons (qe_var 0) (qa_cons (qe_var 1) qa_nil))) (qg_tupn rfl (qgn_cons (qg_name 2 nd) gN_lo (qgn_cons (qg_name 3 nd) gN_lo qgn_nil))))
    (qss_cons (qs_if (qt_cmp (op_inAll (hu65 hr)) o2_in (qe_meth0 _ tk (qe_var 0) T.cl_Reader T.me_Reader_peek G_Reader_peek (hr.mono h_Reader_peek) T.b_Reader_peek) (qe_tup (qa_cons (qe_tup (qa_cons qe_str (qa_cons qe_str qa_nil))) (qa_cons (qe_tup (qa_cons qe_str (qa_cons qe_str qa_nil))) qa_nil))) (by with_unfolding_all rfl)) (qss_cons (qs_set 4 nd (qe_ix (qe_meth0 _ tk (qe_var 0) T.cl_Reader T.me_Reader_take G_Reader_take (hr.mono h_Reader_take) T.b_Reader_take) qe_int))
    (qss_cons (qs_asg [5, 6] (qe_call tk G_read_sum (hr.mono h_read_sum) rfl T.m_read_sum T.f_read_sum.kp T.b_read_sum (qa_cons (qe_var 0) (qa_cons (qe_var 1) qa_nil))) (qg_tupn rfl (qgn_cons (qg_name 5 nd) gN_lo (qgn_cons (qg_name 6 nd) gN_lo qgn_nil))))
    (qss_one (qs_ret (qe_call tk G_joined (hr.mono h_joined) rfl T.m_joined T.f_joined.kp T.b_joined (qa_cons (qe_var 4) (qa_cons (qe_var 2) (qa_cons (qe_var 5) (qa_cons (qe_tup (qa_cons (qe_var 3) (qa_cons (qe_var 6) qa_nil))) qa_nil))))))))) qss_nil)
    (qss_one (qs_ret (qe_tup (qa_cons (qe_var 2) (qa_cons (qe_var 3) qa_nil)))))))
abbrev N_read_expression : List Str := ["reader"]
theorem sc_read_expression : FnScope N_read_expression ["reader"] (defScope s_read_expression) := ⟨rfl, rfl, rfl, by decide +kernel, rfl, by decide +kernel, by decide +kernel⟩
def w_read_expression (A : Ads) (p_read_comparison : SpD) : DS :=
    (wRet (wOp ixD (wCall p_read_comparison (wCons (wVar 0) (wCons (wC (.int 0)) wNil))) (wC (.int 0))))
theorem der_read_expression (T : Txt w K mg A) {k : Nat} {k_read_comparison : Nat} {p_read_comparison : SpD} (G_read_comparison : FnD P w K mg base k_read_comparison A.a_read_comparison A.d_read_comparison ["reader", "opened"] p_read_comparison) (h_read_comparison : k_read_comparison ≤ k) (cdv : Value) (A0 : Around) (outer : List PySem.Env) (s : Shared) (H : Hp) (E : XK) (hr : Room k (A0.deeper (envOfC "read_expression" (defScope s_read_expression) s.heap.objs.size A.a_read_expression cdv))) :
    QSs (cxOf (L2.CX P w) P w K mg base N_read_expression "read_expression" (defScope s_read_expression) A.a_read_expression cdv A0 outer s H E) (fun c od _ H => E c od H) (defBody s_read_expression) (w_read_expression A p_read_comparison) := by
  have nd := sc_read_expression.nd
  have tk : Takes (cxOf (L2.CX P w) P w K mg base N_read_expression "read_expression" (defScope s_read_expression) A.a_read_expression cdv A0 outer s H E) (fun c od _ H => E c od H) := takes_of rfl rfl rfl rfl
  exact (qss_one (qs_ret (qe_ix (qe_call tk G_read_comparison (hr.mono h_read_comparison) rfl T.m_read_comparison T.f_read_comparison.kp T.b_read_comparison (qa_cons (qe_var 0) (qa_cons qe_int qa_nil))) qe_int)))
abbrev N_text_at : List Str := ["expression", "level", "sign", "left", "right", "own", "first", "text"]
theorem sc_text_at : FnScope N_text_at ["expression", "level"] (defScope s_text_at) := ⟨rfl, rfl, rfl, by decide +kernel, rfl, by decide +kernel, by decide +kernel⟩
def w_text_at (A : Ads) (p_text_at : SpD) : DS :=
    (wSeq (wIfS (wTst (wOp (inD false) (wOp ixD (wVar 0) (wC (.int 0))) (wTup (wCons (wC (.str (tx "number"))) (wCons (wC (.str (tx "variable"))) wNil))))) (wRet (wApp strOf (wCons (wOp ixD (wVar 0) (wC (.int 1))) wNil))) wNext)
    (wSeq (wAsg (wVar 0) (gT (gsC (gN 2) (gsC (gN 3) (gsC (gN 4) gsN)))))
    (wSeq (wAsg (wIxK d_LEVELS (wVar 2)) (gN 5))
    (wSeq (wAsg (wIf (wTst (wOp eqD (wVar 5) (wC (.int 0)))) (wC (.int 1)) (wVar 5)) (gN 6))
    (wSeq (wAsg (wJ [(wFmt (wCall p_text_at (wCons (wVar 3) (wCons (wVar 6) wNil)))), (wC (.str (tx " "))), (wFmt (wVar 2)), (wC (.str (tx " "))), (wFmt (wCall p_text_at (wCons (wVar 4) (wCons (wOp addD (wVar 5) (wC (.int 1))) wNil))))] []) (gN 7))
    (wSeq (wIfS (wTst (wOp ltD (wVar 5) (wVar 1))) (wRet (wOp addD (wOp addD (wC (.str (tx "("))) (wVar 7)) (wC (.str (tx ")"))))) wNext)
    (wRet (wVar 7))))))))
theorem der_text_at (T : Txt w K mg A) {k : Nat} {k_text_at : Nat} {p_text_at : SpD} (G_text_at : FnD P w K mg base k_text_at A.a_text_at A.d_text_at ["expression", "level"] p_text_at) (h_text_at : k_text_at ≤ k) (cdv : Value) (A0 : Around) (outer : List PySem.Env) (s : Shared) (H : Hp) (E : XK) (hr : Room k (A0.deeper (envOfC "text_at" (defScope s_text_at) s.heap.objs.size A.a_text_at cdv))) :
    QSs (cxOf (L2.CX P w) P w K mg base N_text_at "text_at" (defScope s_text_at) A.a_text_at cdv A0 outer s H E) (fun c od _ H => E c od H) (defBody s_text_at) (w_text_at A p_text_at) := by
  have nd := sc_text_at.nd
  have tk : Takes (cxOf (L2.CX P w) P w K mg base N_text_at "text_at" (defScope s_text_at) A.a_text_at cdv A0 outer s H E) (fun c od _ H => E c od H) := takes_of rfl rfl rfl rfl
  exact (qss_cons (qs_if (qt_cmp (op_inAll (hu65 hr)) o2_in (qe_ix (qe_var 0) qe_int) (qe_tup (qa_cons qe_str (qa_cons qe_str qa_nil))) (by with_unfolding_all rfl)) (qss_one (qs_ret (qe_callTy call_strAll ol_str rfl T.z_str (show bootBuiltins "str" = some (.type "str") by decide +kernel) (qa_cons (qe_ix (qe_var 0) qe_int) qa_nil)))) qss_nil)
    (qss_cons (qs_asg [2, 3, 4] (qe_var 0) (qg_tupn rfl (qgn_cons (qg_name 2 nd) gN_lo (qgn_cons (qg_name 3 nd) gN_lo (qgn_cons (qg_name 4 nd) gN_lo qgn_nil)))))
    (qss_cons (qs_set 5 nd (qe_ixK T.k_LEVELS rfl (qe_var 2)))
    (qss_cons (qs_set 6 nd (qe_ifx (qt_cmp (op_eqD (hu64 hr)) o2_eq (qe_var 5) qe_int (nomark _)) qe_int (qe_var 5)))
    (qss_cons (qs_set 7 nd (qe_fstr (.cons (qj_val (qe_call tk G_text_at (hr.mono h_text_at) rfl T.m_text_at T.f_text_at.kp T.b_text_at (qa_cons (qe_var 3) (qa_cons (qe_var 6) qa_nil)))) (.cons qe_str (.cons (qj_val (qe_var 2)) (.cons qe_str (.cons (qj_val (qe_call tk G_text_at (hr.mono h_text_at) rfl T.m_text_at T.f_text_at.kp T.b_text_at (qa_cons (qe_var 4) (qa_cons (qe_add (qe_var 5) qe_int) qa_nil)))) .nil)))))))
    (qss_cons (qs_if (qt_cmp op_lt o2_lt (qe_var 5) (qe_var 1) (nomark _)) (qss_one (qs_ret (qe_add (qe_add qe_str (qe_var 7)) qe_str))) qss_nil)
    (qss_one (qs_ret (qe_var 7)))))))))
abbrev N_expression_text : List Str := ["expression"]
theorem sc_expression_text : FnScope N_expression_text ["expression"] (defScope s_expression_text) := ⟨rfl, rfl, rfl, by decide +kernel, rfl, by decide +kernel, by decide +kernel⟩
def w_expression_text (A : Ads) (p_text_at : SpD) : DS :=
    (wRet (wCall p_text_at (wCons (wVar 0) (wCons (wC (.int 0)) wNil))))
theorem der_expression_text (T : Txt w K mg A) {k : Nat} {k_text_at : Nat} {p_text_at : SpD} (G_text_at : FnD P w K mg base k_text_at A.a_text_at A.d_text_at ["expression", "level"] p_text_at) (h_text_at : k_text_at ≤ k) (cdv : Value) (A0 : Around) (outer : List PySem.Env) (s : Shared) (H : Hp) (E : XK) (hr : Room k (A0.deeper (envOfC "expression_text" (defScope s_expression_text) s.heap.objs.size A.a_expression_text cdv))) :
    QSs (cxOf (L2.CX P w) P w K mg base N_expression_text "expression_text" (defScope s_expression_text) A.a_expression_text cdv A0 outer s H E) (fun c od _ H => E c od H) (defBody s_expression_text) (w_expression_text A p_text_at) := by
  have nd := sc_expression_text.nd
  have tk : Takes (cxOf (L2.CX P w) P w K mg base N_expression_text "expression_text" (defScope s_expression_text) A.a_expression_text cdv A0 outer s H E) (fun c od _ H => E c od H) := takes_of rfl rfl rfl rfl
  exact (qss_one (qs_ret (qe_call tk G_text_at (hr.mono h_text_at) rfl T.m_text_at T.f_text_at.kp T.b_text_at (qa_cons (qe_var 0) (qa_cons qe_int qa_nil)))))
abbrev N_read_deed : List Str := ["reader", "name"]
theorem sc_read_deed : FnScope N_read_deed ["reader"] (defScope s_read_deed) := ⟨rfl, rfl, rfl, by decide +kernel, rfl, by decide +kernel, by decide +kernel⟩
def w_read_deed (A : Ads) (p_Reader_skip : SpD) (p_read_expression : SpD) (p_Reader_take_name : SpD) (p_Reader_expect : SpD) : DS :=
    (wSeq (wIfS (wTru (wMeth A.c_Reader "skip" p_Reader_skip (wVar 0) (wCons (wC (.str (tx "word"))) (wCons (wC (.str (tx "print"))) wNil)))) (wRet (wTup (wCons (wC (.str (tx "print"))) (wCons (wCall p_read_expression (wCons (wVar 0) wNil)) wNil)))) wNext)
    (wSeq (wIfS (wTru (wMeth A.c_Reader "skip" p_Reader_skip (wVar 0) (wCons (wC (.str (tx "word"))) (wCons (wC (.str (tx "if"))) wNil)))) (wRet (wTup (wCons (wC (.str (tx "if"))) (wCons (wCall p_read_expression (wCons (wVar 0) wNil)) wNil)))) wNext)
    (wSeq (wAsg (wMeth A.c_Reader "take_name" p_Reader_take_name (wVar 0) wNil) (gN 1))
    (wSeq (wEx (wMeth A.c_Reader "expect" p_Reader_expect (wVar 0) (wCons (wC (.str (tx "symbol"))) (wCons (wC (.str (tx "="))) wNil))))
    (wRet (wTup (wCons (wC (.str (tx "set"))) (wCons (wVar 1) (wCons (wCall p_read_expression (wCons (wVar 0) wNil)) wNil)))))))))
theorem der_read_deed (T : Txt w K mg A) {k : Nat} {k_Reader_skip : Nat} {p_Reader_skip : SpD} (G_Reader_skip : FnD P w K mg base k_Reader_skip A.a_Reader_skip A.d_Reader_skip ["self", "kind", "value"] p_Reader_skip) (h_Reader_skip : k_Reader_skip ≤ k) {k_read_expression : Nat} {p_read_expression : SpD} (G_read_expression : FnD P w K mg base k_read_expression A.a_read_expression A.d_read_expression ["reader"] p_read_expression) (h_read_expression : k_read_expression ≤ k) {k_Reader_take_name : Nat} {p_Reader_take_name : SpD} (G_Reader_take_name : FnD P w K mg base k_Reader_take_name A.a_Reader_take_name A.d_Reader_take_name ["self"] p_Reader_take_name) (h_Reader_take_name : k_Reader_take_name ≤ k) {k_Reader_expect : Nat} {p_Reader_expect : SpD} (G_Reader_expect : FnD P w K mg base k_Reader_expect A.a_Reader_expect A.d_Reader_expect ["self", "kind", "value"] p_Reader_expect) (h_Reader_expect : k_Reader_expect ≤ k) (cdv : Value) (A0 : Around) (outer : List PySem.Env) (s : Shared) (H : Hp) (E : XK) (hr : Room k (A0.deeper (envOfC "read_deed" (defScope s_read_deed) s.heap.objs.size A.a_read_deed cdv))) :
    QSs (cxOf (L2.CX P w) P w K mg base N_read_deed "read_deed" (defScope s_read_deed) A.a_read_deed cdv A0 outer s H E) (fun c od _ H => E c od H) (defBody s_read_deed) (w_read_deed A p_Reader_skip p_read_expression p_Reader_take_name p_Reader_expect) := by
  have nd := sc_read_deed.nd
  have tk : Takes (cxOf (L2.CX P w) P w K mg base N_read_deed "read_deed" (defScope s_read_deed) A.a_read_deed cdv A0 outer s H E) (fun c od _ H => E c od H) := takes_of rfl rfl rfl rfl
  exact (qss_cons (qs_if (qt_tru (qe_meth _ tk (qe_var 0) T.cl_Reader T.me_Reader_skip G_Reader_skip (hr.mono h_Reader_skip) T.b_Reader_skip (qa_cons qe_str (qa_cons qe_str qa_nil)))) (qss_one (qs_ret (qe_tup (qa_cons qe_str (qa_cons (qe_call tk G_read_expression (hr.mono h_read_expression) rfl T.m_read_expression T.f_read_expression.kp T.b_read_expression (qa_cons (qe_var 0) qa_nil)) qa_nil))))) qss_nil)
    (qss_cons (qs_if (qt_tru (qe_meth _ tk (qe_var 0) T.cl_Reader T.me_Reader_skip G_Reader_skip (hr.mono h_Reader_skip) T.b_Reader_skip (qa_cons qe_str (qa_cons qe_str qa_nil)))) (qss_one (qs_ret (qe_tup (qa_cons qe_str (qa_cons (qe_call tk G_read_expression (hr.mono h_read_expression) rfl T.m_read_expression T.f_read_expression.kp T.b_read_expression (qa_cons (qe_var 0) qa_nil)) qa_nil))))) qss_nil)
    (qss_cons (qs_set 1 nd (qe_meth0 _ tk (qe_var 0) T.cl_Reader T.me_Reader_take_name G_Reader_take_name (hr.mono h_Reader_take_name) T.b_Reader_take_name))
    (qss_cons (qs_expr (qe_meth _ tk (qe_var 0) T.cl_Reader T.me_Reader_expect G_Reader_expect (hr.mono h_Reader_expect) T.b_Reader_expect (qa_cons qe_str (qa_cons qe_str qa_nil))))
    (qss_one (qs_ret (qe_tup (qa_cons qe_str (qa_cons (qe_var 1) (qa_cons (qe_call tk G_read_expression (hr.mono h_read_expression) rfl T.m_read_expression T.f_read_expression.kp T.b_read_expression (qa_cons (qe_var 0) qa_nil)) qa_nil))))))))))
abbrev N_deed_text : List Str := ["deed"]
theorem sc_deed_text : FnScope N_deed_text ["deed"] (defScope s_deed_text) := ⟨rfl, rfl, rfl, by decide +kernel, rfl, by decide +kernel, by decide +kernel⟩
def w_deed_text (A : Ads) (p_expression_text : SpD) : DS :=
    (wSeq (wIfS (wTst (wOp eqD (wOp ixD (wVar 0) (wC (.int 0))) (wC (.str (tx "set"))))) (wRet (wJ [(wFmt (wOp ixD (wVar 0) (wC (.int 1)))), (wC (.str (tx " = "))), (wFmt (wCall p_expression_text (wCons (wOp ixD (wVar 0) (wC (.int 2))) wNil)))] [])) wNext)
    (wRet (wJ [(wFmt (wOp ixD (wVar 0) (wC (.int 0)))), (wC (.str (tx " "))), (wFmt (wCall p_expression_text (wCons (wOp ixD (wVar 0) (wC (.int 1))) wNil)))] [])))
theorem der_deed_text (T : Txt w K mg A) {k : Nat} {k_expression_text : Nat} {p_expression_text : SpD} (G_expression_text : FnD P w K mg base k_expression_text A.a_expression_text A.d_expression_text ["expression"] p_expression_text) (h_expression_text : k_expression_text ≤ k) (cdv : Value) (A0 : Around) (outer : List PySem.Env) (s : Shared) (H : Hp) (E : XK) (hr : Room k (A0.deeper (envOfC "deed_text" (defScope s_deed_text) s.heap.objs.size A.a_deed_text cdv))) :
    QSs (cxOf (L2.CX P w) P w K mg base N_deed_text "deed_text" (defScope s_deed_text) A.a_deed_text cdv A0 outer s H E) (fun c od _ H => E c od H) (defBody s_deed_text) (w_deed_text A p_expression_text) := by
  have nd := sc_deed_text.nd
  have tk : Takes (cxOf (L2.CX P w) P w K mg base N_deed_text "deed_text" (defScope s_deed_text) A.a_deed_text cdv A0 outer s H E) (fun c od _ H => E c od H) := takes_of rfl rfl rfl rfl
  exact (qss_cons (qs_if (qt_cmp (op_eqD (hu64 hr)) o2_eq (qe_ix (qe_var 0) qe_int) qe_str (nomark _)) (qss_one (qs_ret (qe_fstr (.cons (qj_val (qe_ix (qe_var 0) qe_int)) (.cons qe_str (.cons (qj_val (qe_call tk G_expression_text (hr.mono h_expression_text) rfl T.m_expression_text T.f_expression_text.kp T.b_expression_text (qa_cons (qe_ix (qe_var 0) qe_int) qa_nil))) .nil)))))) qss_nil)
    (qss_one (qs_ret (qe_fstr (.cons (qj_val (qe_ix (qe_var 0) qe_int)) (.cons qe_str (.cons (qj_val (qe_call tk G_expression_text (hr.mono h_expression_text) rfl T.m_expression_text T.f_expression_text.kp T.b_expression_text (qa_cons (qe_ix (qe_var 0) qe_int) qa_nil))) .nil)))))))
abbrev N_Open__init : List Str := ["self", "head"]
theorem sc_Open__init : FnScope N_Open__init ["self", "head"] (defScope s_Open__init) := ⟨rfl, rfl, rfl, by decide +kernel, rfl, by decide +kernel, by decide +kernel⟩
def w_Open__init (A : Ads) : DS :=
    (wSeq (wSetF A.c_Open "head" (wVar 0) (wVar 1))
    (wSeq (wSetF A.c_Open "then_body" (wVar 0) (wC .non))
    (wSetF A.c_Open "body" (wVar 0) (wLst wNil))))
theorem der_Open__init (T : Txt w K mg A) {k : Nat} (cdv : Value) (A0 : Around) (outer : List PySem.Env) (s : Shared) (H : Hp) (E : XK) (hr : Room k (A0.deeper (envOfC "Open.__init__" (defScope s_Open__init) s.heap.objs.size A.a_Open__init cdv))) :
    QSs (cxOf (L2.CX P w) P w K mg base N_Open__init "Open.__init__" (defScope s_Open__init) A.a_Open__init cdv A0 outer s H E) (fun c od _ H => E c od H) (defBody s_Open__init) (w_Open__init A) := by
  have nd := sc_Open__init.nd
  have tk : Takes (cxOf (L2.CX P w) P w K mg base N_Open__init "Open.__init__" (defScope s_Open__init) A.a_Open__init cdv A0 outer s H E) (fun c od _ H => E c od H) := takes_of rfl rfl rfl rfl
  exact (qss_cons (qs_fld (qe_var 0) (qe_var 1) T.cl_Open T.n_Open_head)
    (qss_cons (qs_fld (qe_var 0) qe_non T.cl_Open T.n_Open_then_body)
    (qss_one (qs_fld (qe_var 0) (qe_lst qa_nil) T.cl_Open T.n_Open_body))))
abbrev N_Open_closed : List Str := ["self"]
theorem sc_Open_closed : FnScope N_Open_closed ["self"] (defScope s_Open_closed) := ⟨rfl, rfl, rfl, by decide +kernel, rfl, by decide +kernel, by decide +kernel⟩
def w_Open_closed (A : Ads) : DS :=
    (wSeq (wIfS (wTst (wOp eqD (wOp ixD (wFld A.c_Open "head" (wVar 0)) (wC (.int 0))) (wC (.str (tx "if"))))) (wSeq (wIfS (wTst (wOp (isND false) (wFld A.c_Open "then_body" (wVar 0)) (wC .non))) (wRet (wOp addD (wFld A.c_Open "head" (wVar 0)) (wTup (wCons (wApp tupleOf (wCons (wFld A.c_Open "body" (wVar 0)) wNil)) (wCons (wTup wNil) wNil))))) wNext)
    (wRet (wOp addD (wFld A.c_Open "head" (wVar 0)) (wTup (wCons (wFld A.c_Open "then_body" (wVar 0)) (wCons (wApp tupleOf (wCons (wFld A.c_Open "body" (wVar 0)) wNil)) wNil)))))) wNext)
    (wRet (wOp addD (wFld A.c_Open "head" (wVar 0)) (wTup (wCons (wApp tupleOf (wCons (wFld A.c_Open "body" (wVar 0)) wNil)) wNil)))))
theorem der_Open_closed (T : Txt w K mg A) {k : Nat} (cdv : Value) (A0 : Around) (outer : List PySem.Env) (s : Shared) (H : Hp) (E : XK) (hr : Room k (A0.deeper (envOfC "Open.closed" (defScope s_Open_closed) s.heap.objs.size A.a_Open_closed cdv))) :
    QSs (cxOf (L2.CX P w) P w K mg base N_Open_closed "Open.closed" (defScope s_Open_closed) A.a_Open_closed cdv A0 outer s H E) (fun c od _ H => E c od H) (defBody s_Open_closed) (w_Open_closed A) := by
  have nd := sc_Open_closed.nd
  have tk : Takes (cxOf (L2.CX P w) P w K mg base N_Open_closed "Open.closed" (defScope s_Open_closed) A.a_Open_closed cdv A0 outer s H E) (fun c od _ H => E c od H) := takes_of rfl rfl rfl rfl
  exact (qss_cons (qs_if (qt_cmp (op_eqD (hu64 hr)) o2_eq (qe_ix (qe_fld (qe_var 0) T.cl_Open T.n_Open_head) qe_int) qe_str (nomark _)) (qss_cons (qs_if (qt_cmp op_isN' o2_isN (qe_fld (qe_var 0) T.cl_Open T.n_Open_then_body) qe_non (nomark _)) (qss_one (qs_ret (qe_add (qe_fld (qe_var 0) T.cl_Open T.n_Open_head) (qe_tup (qa_cons (qe_callTy call_tupleOf ol_tuple rfl T.z_tuple (show bootBuiltins "tuple" = some (.type "tuple") by decide +kernel) (qa_cons (qe_fld (qe_var 0) T.cl_Open T.n_Open_body) qa_nil)) (qa_cons (qe_tup qa_nil) qa_nil)))))) qss_nil)
    (qss_one (qs_ret (qe_add (qe_fld (qe_var 0) T.cl_Open T.n_Open_head) (qe_tup (qa_cons (qe_fld (qe_var 0) T.cl_Open T.n_Open_then_body) (qa_cons (qe_callTy call_tupleOf ol_tuple rfl T.z_tuple (show bootBuiltins "tuple" = some (.type "tuple") by decide +kernel) (qa_cons (qe_fld (qe_var 0) T.cl_Open T.n_Open_body) qa_nil)) qa_nil))))))) qss_nil)
    (qss_one (qs_ret (qe_add (qe_fld (qe_var 0) T.cl_Open T.n_Open_head) (qe_tup (qa_cons (qe_callTy call_tupleOf ol_tuple rfl T.z_tuple (show bootBuiltins "tuple" = some (.type "tuple") by decide +kernel) (qa_cons (qe_fld (qe_var 0) T.cl_Open T.n_Open_body) qa_nil)) qa_nil))))))
abbrev N_read_labelled : List Str := ["reader", "label", "deed"]
theorem sc_read_labelled : FnScope N_read_labelled ["reader"] (defScope s_read_labelled) := ⟨rfl, rfl, rfl, by decide +kernel, rfl, by decide +kernel, by decide +kernel⟩
def w_read_labelled (A : Ads) (p_Reader_take_label : SpD) (p_Reader_expect : SpD) (p_read_deed : SpD) : DS :=
    (wSeq (wAsg (wMeth A.c_Reader "take_label" p_Reader_take_label (wVar 0) wNil) (gN 1))
    (wSeq (wEx (wMeth A.c_Reader "expect" p_Reader_expect (wVar 0) (wCons (wC (.str (tx "symbol"))) (wCons (wC (.str (tx ":"))) wNil))))
    (wSeq (wAsg (wCall p_read_deed (wCons (wVar 0) wNil)) (gN 2))
    (wSeq (wIfS (wTst (wOp eqD (wOp ixD (wVar 2) (wC (.int 0))) (wC (.str (tx "if"))))) (wSeq (wEx (wMeth A.c_Reader "expect" p_Reader_expect (wVar 0) (wCons (wC (.str (tx "symbol"))) (wCons (wC (.str (tx "{"))) wNil))))
    (wRet (wTup (wCons (wC (.str (tx "open"))) (wCons (wTup (wCons (wC (.str (tx "if"))) (wCons (wVar 1) (wCons (wOp ixD (wVar 2) (wC (.int 1))) wNil)))) wNil))))) wNext)
    (wRet (wTup (wCons (wC (.str (tx "statement"))) (wCons (wTup (wCons (wC (.str (tx "node"))) (wCons (wVar 1) (wCons (wVar 2) wNil)))) wNil))))))))
theorem der_read_labelled (T : Txt w K mg A) {k : Nat} {k_Reader_take_label : Nat} {p_Reader_take_label : SpD} (G_Reader_take_label : FnD P w K mg base k_Reader_take_label A.a_Reader_take_label A.d_Reader_take_label ["self"] p_Reader_take_label) (h_Reader_take_label : k_Reader_take_label ≤ k) {k_Reader_expect : Nat} {p_Reader_expect : SpD} (G_Reader_expect : FnD P w K mg base k_Reader_expect A.a_Reader_expect A.d_Reader_expect ["self", "kind", "value"] p_Reader_expect) (h_Reader_expect : k_Reader_expect ≤ k) {k_read_deed : Nat} {p_read_deed : SpD} (G_read_deed : FnD P w K mg base k_read_deed A.a_read_deed A.d_read_deed ["reader"] p_read_deed) (h_read_deed : k_read_deed ≤ k) (cdv : Value) (A0 : Around) (outer : List PySem.Env) (s : Shared) (H : Hp) (E : XK) (hr : Room k (A0.deeper (envOfC "read_labelled" (defScope s_read_labelled) s.heap.objs.size A.a_read_labelled cdv))) :
    QSs (cxOf (L2.CX P w) P w K mg base N_read_labelled "read_labelled" (defScope s_read_labelled) A.a_read_labelled cdv A0 outer s H E) (fun c od _ H => E c od H) (defBody s_read_labelled) (w_read_labelled A p_Reader_take_label p_Reader_expect p_read_deed) := by
  have nd := sc_read_labelled.nd
  have tk : Takes (cxOf (L2.CX P w) P w K mg base N_read_labelled "read_labelled" (defScope s_read_labelled) A.a_read_labelled cdv A0 outer s H E) (fun c od _ H => E c od H) := takes_of rfl rfl rfl rfl
  exact (qss_cons (qs_set 1 nd (qe_meth0 _ tk (qe_var 0) T.cl_Reader T.me_Reader_take_label G_Reader_take_label (hr.mono h_Reader_take_label) T.b_Reader_take_label))
    (qss_cons (qs_expr (qe_meth _ tk (qe_var 0) T.cl_Reader T.me_Reader_expect G_Reader_expect (hr.mono h_Reader_expect) T.b_Reader_expect (qa_cons qe_str (qa_cons qe_str qa_nil))))
    (qss_cons (qs_set 2 nd (qe_call tk G_read_deed (hr.mono h_read_deed) rfl T.m_read_deed T.f_read_deed.kp T.b_read_deed (qa_cons (qe_var 0) qa_nil)))
    (qss_cons (qs_if (qt_cmp (op_eqD (hu64 hr)) o2_eq (qe_ix (qe_var 2) qe_int) qe_str (nomark _)) (qss_cons (qs_expr (qe_meth _ tk (qe_var 0) T.cl_Reader T.me_Reader_expect G_Reader_expect (hr.mono h_Reader_expect) T.b_Reader_expect (qa_cons qe_str (qa_cons qe_str qa_nil))))
    (qss_one (qs_ret (qe_tup (qa_cons qe_str (qa_cons (qe_tup (qa_cons qe_str (qa_cons (qe_var 1) (qa_cons (qe_ix (qe_var 2) qe_int) qa_nil)))) qa_nil)))))) qss_nil)
    (qss_one (qs_ret (qe_tup (qa_cons qe_str (qa_cons (qe_tup (qa_cons qe_str (qa_cons (qe_var 1) (qa_cons (qe_var 2) qa_nil)))) qa_nil)))))))))
abbrev N_read_worded : List Str := ["reader", "word", "name"]
theorem sc_read_worded : FnScope N_read_worded ["reader"] (defScope s_read_worded) := ⟨rfl, rfl, rfl, by decide +kernel, rfl, by decide +kernel, by decide +kernel⟩
def w_read_worded (A : Ads) (p_Reader_take : SpD) (p_Reader_take_label : SpD) (p_Reader_expect : SpD) : DS :=
    (wSeq (wAsg (wOp ixD (wMeth A.c_Reader "take" p_Reader_take (wVar 0) wNil) (wC (.int 1))) (gN 1))
    (wSeq (wIfS (wTst (wOp eqD (wVar 1) (wC (.str (tx "exit"))))) (wRet (wTup (wCons (wC (.str (tx "statement"))) (wCons (wTup (wCons (wC (.str (tx "exit"))) wNil)) wNil)))) wNext)
    (wSeq (wIfS (wTst (wOp (inD false) (wVar 1) (wTup (wCons (wC (.str (tx "break"))) (wCons (wC (.str (tx "continue"))) wNil))))) (wRet (wTup (wCons (wC (.str (tx "statement"))) (wCons (wTup (wCons (wVar 1) (wCons (wMeth A.c_Reader "take_label" p_Reader_take_label (wVar 0) wNil) wNil))) wNil)))) wNext)
    (wSeq (wIfS (wTst (wOp (inD false) (wVar 1) (wTup (wCons (wC (.str (tx "block"))) (wCons (wC (.str (tx "loop"))) wNil))))) (wSeq (wAsg (wMeth A.c_Reader "take_label" p_Reader_take_label (wVar 0) wNil) (gN 2))
    (wSeq (wEx (wMeth A.c_Reader "expect" p_Reader_expect (wVar 0) (wCons (wC (.str (tx "symbol"))) (wCons (wC (.str (tx "{"))) wNil))))
    (wRet (wTup (wCons (wC (.str (tx "open"))) (wCons (wTup (wCons (wVar 1) (wCons (wVar 2) wNil))) wNil)))))) wNext)
    (wRaise A.c_BadLine)))))
theorem der_read_worded (T : Txt w K mg A) {k : Nat} {k_Reader_take : Nat} {p_Reader_take : SpD} (G_Reader_take : FnD P w K mg base k_Reader_take A.a_Reader_take A.d_Reader_take ["self"] p_Reader_take) (h_Reader_take : k_Reader_take ≤ k) {k_Reader_take_label : Nat} {p_Reader_take_label : SpD} (G_Reader_take_label : FnD P w K mg base k_Reader_take_label A.a_Reader_take_label A.d_Reader_take_label ["self"] p_Reader_take_label) (h_Reader_take_label : k_Reader_take_label ≤ k) {k_Reader_expect : Nat} {p_Reader_expect : SpD} (G_Reader_expect : FnD P w K mg base k_Reader_expect A.a_Reader_expect A.d_Reader_expect ["self", "kind", "value"] p_Reader_expect) (h_Reader_expect : k_Reader_expect ≤ k) (cdv : Value) (A0 : Around) (outer : List PySem.Env) (s : Shared) (H : Hp) (E : XK) (hr : Room k (A0.deeper (envOfC "read_worded" (defScope s_read_worded) s.heap.objs.size A.a_read_worded cdv))) :
    QSs (cxOf (L2.CX P w) P w K mg base N_read_worded "read_worded" (defScope s_read_worded) A.a_read_worded cdv A0 outer s H E) (fun c od _ H => E c od H) (defBody s_read_worded) (w_read_worded A p_Reader_take p_Reader_take_label p_Reader_expect) := by
  have nd := sc_read_worded.nd
  have tk : Takes (cxOf (L2.CX P w) P w K mg base N_read_worded "read_worded" (defScope s_read_worded) A.a_read_worded cdv A0 outer s H E) (fun c od _ H => E c od H) := takes_of rfl rfl rfl rfl
  exact (qss_cons (qs_set 1 nd (qe_ix (qe_meth0 _ tk (qe_var 0) T.cl_Reader T.me_Reader_take G_Reader_take (hr.mono h_Reader_take) T.b_Reader_take) qe_int))
    (qss_cons (qs_if (qt_cmp (op_eqD (hu64 hr)) o2_eq (qe_var 1) qe_str (nomark _)) (qss_one (qs_ret (qe_tup (qa_cons qe_str (qa_cons (qe_tup (qa_cons qe_str qa_nil)) qa_nil))))) qss_nil)
    (qss_cons (qs_if (qt_cmp (op_inAll (hu65 hr)) o2_in (qe_var 1) (qe_tup (qa_cons qe_str (qa_cons qe_str qa_nil))) (by with_unfolding_all rfl)) (qss_one (qs_ret (qe_tup (qa_cons qe_str (qa_cons (qe_tup (qa_cons (qe_var 1) (qa_cons (qe_meth0 _ tk (qe_var 0) T.cl_Reader T.me_Reader_take_label G_Reader_take_label (hr.mono h_Reader_take_label) T.b_Reader_take_label) qa_nil))) qa_nil))))) qss_nil)
    (qss_cons (qs_if (qt_cmp (op_inAll (hu65 hr)) o2_in (qe_var 1) (qe_tup (qa_cons qe_str (qa_cons qe_str qa_nil))) (by with_unfolding_all rfl)) (qss_cons (qs_set 2 nd (qe_meth0 _ tk (qe_var 0) T.cl_Reader T.me_Reader_take_label G_Reader_take_label (hr.mono h_Reader_take_label) T.b_Reader_take_label))
    (qss_cons (qs_expr (qe_meth _ tk (qe_var 0) T.cl_Reader T.me_Reader_expect G_Reader_expect (hr.mono h_Reader_expect) T.b_Reader_expect (qa_cons qe_str (qa_cons qe_str qa_nil))))
    (qss_one (qs_ret (qe_tup (qa_cons qe_str (qa_cons (qe_tup (qa_cons (qe_var 1) (qa_cons (qe_var 2) qa_nil))) qa_nil))))))) qss_nil)
    (qss_one (qs_raise rfl tk PySem.F.excBase_ValueError T.x_BadLine T.g_BadLine T.kp_BadLine (raises_own T.r1_BadLine T.r2_BadLine) rfl))))))
abbrev N_read_line : List Str := ["line", "reader", "found", "word"]
theorem sc_read_line : FnScope N_read_line ["line"] (defScope s_read_line) := ⟨rfl, rfl, rfl, by decide +kernel, rfl, by decide +kernel, by decide +kernel⟩
def w_read_line (A : Ads) (p_Reader__init : SpD) (p_signs_of : SpD) (p_Reader_skip : SpD) (p_Reader_expect : SpD) (p_Reader_peek : SpD) (p_read_worded : SpD) (p_read_labelled : SpD) (p_Reader_finish : SpD) : DS :=
    (wSeq (wAsg (wMake A.c_Reader p_Reader__init (wCons (wCall p_signs_of (wCons (wVar 0) wNil)) wNil)) (gN 1))
    (wSeq (wIfS (wTru (wMeth A.c_Reader "skip" p_Reader_skip (wVar 1) (wCons (wC (.str (tx "symbol"))) (wCons (wC (.str (tx "}"))) wNil)))) (wSeq (wAsg (wTup (wCons (wC (.str (tx "close"))) wNil)) (gN 2))
    (wIfS (wTru (wMeth A.c_Reader "skip" p_Reader_skip (wVar 1) (wCons (wC (.str (tx "word"))) (wCons (wC (.str (tx "else"))) wNil)))) (wSeq (wEx (wMeth A.c_Reader "expect" p_Reader_expect (wVar 1) (wCons (wC (.str (tx "symbol"))) (wCons (wC (.str (tx "{"))) wNil))))
    (wAsg (wTup (wCons (wC (.str (tx "else"))) wNil)) (gN 2))) wNext)) (wIfS (wTst (wOp (inD false) (wMeth A.c_Reader "peek" p_Reader_peek (wVar 1) wNil) (wLc [3] (wItT (wTup (wCons (wC (.str (tx "exit"))) (wCons (wC (.str (tx "break"))) (wCons (wC (.str (tx "continue"))) (wCons (wC (.str (tx "block"))) (wCons (wC (.str (tx "loop"))) wNil))))))) (gN 3) wYes (wTup (wCons (wC (.str (tx "word"))) (wCons (wVar 3) wNil)))))) (wAsg (wCall p_read_worded (wCons (wVar 1) wNil)) (gN 2)) (wAsg (wCall p_read_labelled (wCons (wVar 1) wNil)) (gN 2))))
    (wSeq (wEx (wMeth A.c_Reader "finish" p_Reader_finish (wVar 1) wNil))
    (wRet (wVar 2)))))
theorem der_read_line (T : Txt w K mg A) {k : Nat} {k_Reader__init : Nat} {p_Reader__init : SpD} (G_Reader__init : FnD P w K mg base k_Reader__init A.a_Reader__init A.d_Reader__init ["self", "signs"] p_Reader__init) (h_Reader__init : k_Reader__init < k) {k_signs_of : Nat} {p_signs_of : SpD} (G_signs_of : FnD P w K mg base k_signs_of A.a_signs_of A.d_signs_of ["line"] p_signs_of) (h_signs_of : k_signs_of ≤ k) {k_Reader_skip : Nat} {p_Reader_skip : SpD} (G_Reader_skip : FnD P w K mg base k_Reader_skip A.a_Reader_skip A.d_Reader_skip ["self", "kind", "value"] p_Reader_skip) (h_Reader_skip : k_Reader_skip ≤ k) {k_Reader_expect : Nat} {p_Reader_expect : SpD} (G_Reader_expect : FnD P w K mg base k_Reader_expect A.a_Reader_expect A.d_Reader_expect ["self", "kind", "value"] p_Reader_expect) (h_Reader_expect : k_Reader_expect ≤ k) {k_Reader_peek : Nat} {p_Reader_peek : SpD} (G_Reader_peek : FnD P w K mg base k_Reader_peek A.a_Reader_peek A.d_Reader_peek ["self"] p_Reader_peek) (h_Reader_peek : k_Reader_peek ≤ k) {k_read_worded : Nat} {p_read_worded : SpD} (G_read_worded : FnD P w K mg base k_read_worded A.a_read_worded A.d_read_worded ["reader"] p_read_worded) (h_read_worded : k_read_worded ≤ k) {k_read_labelled : Nat} {p_read_labelled : SpD} (G_read_labelled : FnD P w K mg base k_read_labelled A.a_read_labelled A.d_read_labelled ["reader"] p_read_labelled) (h_read_labelled : k_read_labelled ≤ k) {k_Reader_finish : Nat} {p_Reader_finish : SpD} (G_Reader_finish : FnD P w K mg base k_Reader_finish A.a_Reader_finish A.d_Reader_finish ["self"] p_Reader_finish) (h_Reader_finish : k_Reader_finish ≤ k) (cdv : Value) (A0 : Around) (outer : List PySem.Env) (s : Shared) (H : Hp) (E : XK) (hr : Room k (A0.deeper (envOfC "read_line" (defScope s_read_line) s.heap.objs.size A.a_read_line cdv))) :
    QSs (cxOf (L2.CX P w) P w K mg base N_read_line "read_line" (defScope s_read_line) A.a_read_line cdv A0 outer s H E) (fun c od _ H => E c od H) (defBody s_read_line) (w_read_line A p_Reader__init p_signs_of p_Reader_skip p_Reader_expect p_Reader_peek p_read_worded p_read_labelled p_Reader_finish) := by
  have nd := sc_read_line.nd
  have tk : Takes (cxOf (L2.CX P w) P w K mg base N_read_line "read_line" (defScope s_read_line) A.a_read_line cdv A0 outer s H E) (fun c od _ H => E c od H) := takes_of rfl rfl rfl rfl
  exact (qss_cons (qs_set 1 nd (qe_make tk T.mk_Reader G_Reader__init (hr.mono (Nat.succ_le_of_lt h_Reader__init)) rfl T.g_Reader T.b_Reader__init (qa_cons (qe_call tk G_signs_of (hr.mono h_signs_of) rfl T.m_signs_of T.f_signs_of.kp T.b_signs_of (qa_cons (qe_var 0) qa_nil)) qa_nil)))
    (qss_cons (qs_if (qt_tru (qe_meth _ tk (qe_var 1) T.cl_Reader T.me_Reader_skip G_Reader_skip (hr.mono h_Reader_skip) T.b_Reader_skip (qa_cons qe_str (qa_cons qe_str qa_nil)))) (qss_cons (qs_set 2 nd (qe_tup (qa_cons qe_str qa_nil)))
    (qss_one (qs_if (qt_tru (qe_meth _ tk (qe_var 1) T.cl_Reader T.me_Reader_skip G_Reader_skip (hr.mono h_Reader_skip) T.b_Reader_skip (qa_cons qe_str (qa_cons qe_str qa_nil)))) (qss_cons (qs_expr (qe_meth _ tk (qe_var 1) T.cl_Reader T.me_Reader_expect G_Reader_expect (hr.mono h_Reader_expect) T.b_Reader_expect (qa_cons qe_str (qa_cons qe_str qa_nil))))
    (qss_one (qs_set 2 nd (qe_tup (qa_cons qe_str qa_nil))))) qss_nil))) (qss_one (qs_if (qt_cmp (op_inAll (hu65 hr)) o2_in (qe_meth0 _ tk (qe_var 1) T.cl_Reader T.me_Reader_peek G_Reader_peek (hr.mono h_Reader_peek) T.b_Reader_peek) (qe_lc (own := [("word", 3)]) rfl nd (qi_tup (qe_tup (qa_cons qe_str (qa_cons qe_str (qa_cons qe_str (qa_cons qe_str (qa_cons qe_str qa_nil))))))) (blkOk_by (N := N_read_line) (sc := defScope s_read_line) (by decide +kernel)) (fun _ _ _ _ _ => (qg_name 3 nd)) (fun _ _ _ _ _ => qts_nil) (fun _ _ _ _ _ => (qe_tup (qa_cons qe_str (qa_cons (qe_var 3) qa_nil))))) (by with_unfolding_all rfl)) (qss_one (qs_set 2 nd (qe_call tk G_read_worded (hr.mono h_read_worded) rfl T.m_read_worded T.f_read_worded.kp T.b_read_worded (qa_cons (qe_var 1) qa_nil)))) (qss_one (qs_set 2 nd (qe_call tk G_read_labelled (hr.mono h_read_labelled) rfl T.m_read_labelled T.f_read_labelled.kp T.b_read_labelled (qa_cons (qe_var 1) qa_nil)))))))
    (qss_cons (qs_expr (qe_meth0 _ tk (qe_var 1) T.cl_Reader T.me_Reader_finish G_Reader_finish (hr.mono h_Reader_finish) T.b_Reader_finish))
    (qss_one (qs_ret (qe_var 2))))))
abbrev N_take_line : List Str := ["stack", "found", "statement"]
theorem sc_take_line : FnScope N_take_line ["stack", "found"] (defScope s_take_line) := ⟨rfl, rfl, rfl, by decide +kernel, rfl, by decide +kernel, by decide +kernel⟩
def w_take_line (A : Ads) (p_Open__init : SpD) (p_begin_else : SpD) (p_Open_closed : SpD) : DS :=
    (wIfS (wTst (wOp eqD (wOp ixD (wVar 1) (wC (.int 0))) (wC (.str (tx "statement"))))) (wEx (wBM "list" appendD (wFld A.c_Open "body" (wOp ixD (wVar 0) (wC (.int (-1))))) (wCons (wOp ixD (wVar 1) (wC (.int 1))) wNil))) (wIfS (wTst (wOp eqD (wOp ixD (wVar 1) (wC (.int 0))) (wC (.str (tx "open"))))) (wSeq (wIfS (wTst (wOp gtD (wApp lenD (wCons (wVar 0) wNil)) (wC (.int 60)))) (wRaise A.c_BadLine) wNext)
    (wEx (wBM "list" appendD (wVar 0) (wCons (wMake A.c_Open p_Open__init (wCons (wOp ixD (wVar 1) (wC (.int 1))) wNil)) wNil)))) (wIfS (wTst (wOp eqD (wApp lenD (wCons (wVar 0) wNil)) (wC (.int 1)))) (wRaise A.c_BadLine) (wIfS (wTst (wOp eqD (wOp ixD (wVar 1) (wC (.int 0))) (wC (.str (tx "else"))))) (wEx (wCall p_begin_else (wCons (wOp ixD (wVar 0) (wC (.int (-1)))) wNil))) (wSeq (wAsg (wMeth A.c_Open "closed" p_Open_closed (wBM0 "list" popD (wVar 0)) wNil) (gN 2))
    (wEx (wBM "list" appendD (wFld A.c_Open "body" (wOp ixD (wVar 0) (wC (.int (-1))))) (wCons (wVar 2) wNil))))))))
theorem der_take_line (T : Txt w K mg A) {k : Nat} {k_Open__init : Nat} {p_Open__init : SpD} (G_Open__init : FnD P w K mg base k_Open__init A.a_Open__init A.d_Open__init ["self", "head"] p_Open__init) (h_Open__init : k_Open__init < k) {k_begin_else : Nat} {p_begin_else : SpD} (G_begin_else : FnD P w K mg base k_begin_else A.a_begin_else A.d_begin_else ["top"] p_begin_else) (h_begin_else : k_begin_else ≤ k) {k_Open_closed : Nat} {p_Open_closed : SpD} (G_Open_closed : FnD P w K mg base k_Open_closed A.a_Open_closed A.d_Open_closed ["self"] p_Open_closed) (h_Open_closed : k_Open_closed ≤ k) (cdv : Value) (A0 : Around) (outer : List PySem.Env) (s : Shared) (H : Hp) (E : XK) (hr : Room k (A0.deeper (envOfC "take_line" (defScope s_take_line) s.heap.objs.size A.a_take_line cdv))) :
    QSs (cxOf (L2.CX P w) P w K mg base N_take_line "take_line" (defScope s_take_line) A.a_take_line cdv A0 outer s H E) (fun c od _ H => E c od H) (defBody s_take_line) (w_take_line A p_Open__init p_begin_else p_Open_closed) := by
  have nd := sc_take_line.nd
  have tk : Takes (cxOf (L2.CX P w) P w K mg base N_take_line "take_line" (defScope s_take_line) A.a_take_line cdv A0 outer s H E) (fun c od _ H => E c od H) := takes_of rfl rfl rfl rfl
  exact (qss_one (qs_if (qt_cmp (op_eqD (hu64 hr)) o2_eq (qe_ix (qe_var 1) qe_int) qe_str (nomark _)) (qss_one (qs_expr (qe_append (qe_fld (qe_ix (qe_var 0) (qe_neg)) T.cl_Open T.n_Open_body) (qe_ix (qe_var 1) qe_int)))) (qss_one (qs_if (qt_cmp (op_eqD (hu64 hr)) o2_eq (qe_ix (qe_var 1) qe_int) qe_str (nomark _)) (qss_cons (qs_if (qt_cmp op_gt o2_gt (qe_len rfl T.z_len (qe_var 0)) (qe_gint rfl T.k_MOST_DEPTH) (nomark _)) (qss_one (qs_raise rfl tk PySem.F.excBase_ValueError T.x_BadLine T.g_BadLine T.kp_BadLine (raises_own T.r1_BadLine T.r2_BadLine) rfl)) qss_nil)
    (qss_one (qs_expr (qe_append (qe_var 0) (qe_make tk T.mk_Open G_Open__init (hr.mono (Nat.succ_le_of_lt h_Open__init)) rfl T.g_Open T.b_Open__init (qa_cons (qe_ix (qe_var 1) qe_int) qa_nil)))))) (qss_one (qs_if (qt_cmp (op_eqD (hu64 hr)) o2_eq (qe_len rfl T.z_len (qe_var 0)) qe_int (nomark _)) (qss_one (qs_raise rfl tk PySem.F.excBase_ValueError T.x_BadLine T.g_BadLine T.kp_BadLine (raises_own T.r1_BadLine T.r2_BadLine) rfl)) (qss_one (qs_if (qt_cmp (op_eqD (hu64 hr)) o2_eq (qe_ix (qe_var 1) qe_int) qe_str (nomark _)) (qss_one (qs_expr (qe_call tk G_begin_else (hr.mono h_begin_else) rfl T.m_begin_else T.f_begin_else.kp T.b_begin_else (qa_cons (qe_ix (qe_var 0) (qe_neg)) qa_nil)))) (qss_cons (qs_set 2 nd (qe_meth0 _ tk (qe_pop (qe_var 0)) T.cl_Open T.me_Open_closed G_Open_closed (hr.mono h_Open_closed) T.b_Open_closed))
    (qss_one (qs_expr (qe_append (qe_fld (qe_ix (qe_var 0) (qe_neg)) T.cl_Open T.n_Open_body) (qe_var 2)))))))))))))
abbrev N_begin_else : List Str := ["top"]
theorem sc_begin_else : FnScope N_begin_else ["top"] (defScope s_begin_else) := ⟨rfl, rfl, rfl, by decide +kernel, rfl, by decide +kernel, by decide +kernel⟩
def w_begin_else (A : Ads) : DS :=
    (wSeq (wIfS (wOr (wTst (wOp neD (wOp ixD (wFld A.c_Open "head" (wVar 0)) (wC (.int 0))) (wC (.str (tx "if"))))) (wTst (wOp (isND true) (wFld A.c_Open "then_body" (wVar 0)) (wC .non)))) (wRaise A.c_BadLine) wNext)
    (wSeq (wSetF A.c_Open "then_body" (wVar 0) (wApp tupleOf (wCons (wFld A.c_Open "body" (wVar 0)) wNil)))
    (wSetF A.c_Open "body" (wVar 0) (wLst wNil))))
theorem der_begin_else (T : Txt w K mg A) {k : Nat} (cdv : Value) (A0 : Around) (outer : List PySem.Env) (s : Shared) (H : Hp) (E : XK) (hr : Room k (A0.deeper (envOfC "begin_else" (defScope s_begin_else) s.heap.objs.size A.a_begin_else cdv))) :
    QSs (cxOf (L2.CX P w) P w K mg base N_begin_else "begin_else" (defScope s_begin_else) A.a_begin_else cdv A0 outer s H E) (fun c od _ H => E c od H) (defBody s_begin_else) (w_begin_else A) := by
  have nd := sc_begin_else.nd
  have tk : Takes (cxOf (L2.CX P w) P w K mg base N_begin_else "begin_else" (defScope s_begin_else) A.a_begin_else cdv A0 outer s H E) (fun c od _ H => E c od H) := takes_of rfl rfl rfl rfl
  exact (qss_cons (qs_if (qt_bool (qw_or (qt_cmp (op_neD (hu64 hr)) o2_ne (qe_ix (qe_fld (qe_var 0) T.cl_Open T.n_Open_head) qe_int) qe_str (nomark _)) (qw_or1 (qt_cmp op_notN' o2_isN (qe_fld (qe_var 0) T.cl_Open T.n_Open_then_body) qe_non (nomark _))))) (qss_one (qs_raise rfl tk PySem.F.excBase_ValueError T.x_BadLine T.g_BadLine T.kp_BadLine (raises_own T.r1_BadLine T.r2_BadLine) rfl)) qss_nil)
    (qss_cons (qs_fld (qe_var 0) (qe_callTy call_tupleOf ol_tuple rfl T.z_tuple (show bootBuiltins "tuple" = some (.type "tuple") by decide +kernel) (qa_cons (qe_fld (qe_var 0) T.cl_Open T.n_Open_body) qa_nil)) T.cl_Open T.n_Open_then_body)
    (qss_one (qs_fld (qe_var 0) (qe_lst qa_nil) T.cl_Open T.n_Open_body))))
abbrev N_parse_body : List Str := ["text", "stack", "lines", "index", "line", "e"]
theorem sc_parse_body : FnScope N_parse_body ["text"] (defScope s_parse_body) := ⟨rfl, rfl, rfl, by decide +kernel, rfl, by decide +kernel, by decide +kernel⟩
def w_parse_body (A : Ads) (p_Open__init : SpD) (p_is_blank : SpD) (p_take_line : SpD) (p_read_line : SpD) : DS :=
    (wSeq (wAsg (wLst (wCons (wMake A.c_Open p_Open__init (wCons (wTup (wCons (wC (.str (tx "program"))) wNil)) wNil)) wNil)) (gN 1))
    (wSeq (wAsg (wBM "str" splitD (wVar 0) (wCons (wC (.str (tx "\n"))) wNil)) (gN 2))
    (wSeq (wFor (wEnum (wVar 2)) (gT (gsC (gN 3) (gsC (gN 4) gsN))) (wIfS (wNot (wTru (wCall p_is_blank (wCons (wVar 4) wNil)))) (wThru (wEx (wCall p_take_line (wCons (wVar 1) (wCons (wCall p_read_line (wCons (wVar 4) wNil)) wNil))))) wNext))
    (wSeq (wIfS (wTst (wOp gtD (wApp lenD (wCons (wVar 1) wNil)) (wC (.int 1)))) wNever wNext)
    (wRet (wApp tupleOf (wCons (wFld A.c_Open "body" (wOp ixD (wVar 1) (wC (.int 0)))) wNil)))))))
theorem der_parse_body (T : Txt w K mg A) {k : Nat} {k_Open__init : Nat} {p_Open__init : SpD} (G_Open__init : FnD P w K mg base k_Open__init A.a_Open__init A.d_Open__init ["self", "head"] p_Open__init) (h_Open__init : k_Open__init < k) {k_is_blank : Nat} {p_is_blank : SpD} (G_is_blank : FnD P w K mg base k_is_blank A.a_is_blank A.d_is_blank ["line"] p_is_blank) (h_is_blank : k_is_blank ≤ k) {k_take_line : Nat} {p_take_line : SpD} (G_take_line : FnD P w K mg base k_take_line A.a_take_line A.d_take_line ["stack", "found"] p_take_line) (h_take_line : k_take_line ≤ k) {k_read_line : Nat} {p_read_line : SpD} (G_read_line : FnD P w K mg base k_read_line A.a_read_line A.d_read_line ["line"] p_read_line) (h_read_line : k_read_line ≤ k) (cdv : Value) (A0 : Around) (outer : List PySem.Env) (s : Shared) (H : Hp) (E : XK) (hr : Room k (A0.deeper (envOfC "parse_body" (defScope s_parse_body) s.heap.objs.size A.a_parse_body cdv))) :
    QSs (cxOf (L2.CX P w) P w K mg base N_parse_body "parse_body" (defScope s_parse_body) A.a_parse_body cdv A0 outer s H E) (fun c od _ H => E c od H) (defBody s_parse_body) (w_parse_body A p_Open__init p_is_blank p_take_line p_read_line) := by
  have nd := sc_parse_body.nd
  have tk : Takes (cxOf (L2.CX P w) P w K mg base N_parse_body "parse_body" (defScope s_parse_body) A.a_parse_body cdv A0 outer s H E) (fun c od _ H => E c od H) := takes_of rfl rfl rfl rfl
  exact (qss_cons (qs_set 1 nd (qe_lst (qa_cons (qe_make tk T.mk_Open G_Open__init (hr.mono (Nat.succ_le_of_lt h_Open__init)) rfl T.g_Open T.b_Open__init (qa_cons (qe_tup (qa_cons qe_str qa_nil)) qa_nil)) qa_nil)))
    (qss_cons (qs_set 2 nd (qe_strm PySem.F.slot_str_split PySem.F.type_str_split mt_splitS om_split (qe_var 0) qe_str))
    (qss_cons (qs_for [3, 4] (passes_of rfl) rfl (qi_enum rfl T.z_enumerate (qe_var 2)) (qg_tupn rfl (qgn_cons (qg_name 3 nd) gN_lo (qgn_cons (qg_name 4 nd) gN_lo qgn_nil))) (qss_one (qs_if (qt_not (qt_tru (qe_call tk G_is_blank (hr.mono h_is_blank) rfl T.m_is_blank T.f_is_blank.kp T.b_is_blank (qa_cons (qe_var 4) qa_nil)))) (qss_one (qs_thru (qss_one (qs_expr (qe_call takes0 G_take_line (hr.mono h_take_line) rfl T.m_take_line T.f_take_line.kp T.b_take_line (qa_cons (qe_var 1) (qa_cons (qe_call takes0 G_read_line (hr.mono h_read_line) rfl T.m_read_line T.f_read_line.kp T.b_read_line (qa_cons (qe_var 4) qa_nil)) qa_nil))))))) qss_nil)))
    (qss_cons (qs_if (qt_cmp op_gt o2_gt (qe_len rfl T.z_len (qe_var 1)) qe_int (nomark _)) (qss_one qs_never) qss_nil)
    (qss_one (qs_ret (qe_callTy call_tupleOf ol_tuple rfl T.z_tuple (show bootBuiltins "tuple" = some (.type "tuple") by decide +kernel) (qa_cons (qe_fld (qe_ix (qe_var 1) qe_int) T.cl_Open T.n_Open_body) qa_nil))))))))
abbrev N_inner_lines : List Str := ["body", "depth", "lines", "statement"]
theorem sc_inner_lines : FnScope N_inner_lines ["body", "depth"] (defScope s_inner_lines) := ⟨rfl, rfl, rfl, by decide +kernel, rfl, by decide +kernel, by decide +kernel⟩
def w_inner_lines (A : Ads) (p_statement_lines : SpD) : DS :=
    (wSeq (wAsg (wLst wNil) (gN 2))
    (wSeq (wFor (wItT (wVar 0)) (gN 3) (wEx (wBM "list" extendD (wVar 2) (wCons (wCall p_statement_lines (wCons (wVar 3) (wCons (wVar 1) wNil))) wNil))))
    (wRet (wVar 2))))
theorem der_inner_lines (T : Txt w K mg A) {k : Nat} {k_statement_lines : Nat} {p_statement_lines : SpD} (G_statement_lines : FnD P w K mg base k_statement_lines A.a_statement_lines A.d_statement_lines ["statement", "depth"] p_statement_lines) (h_statement_lines : k_statement_lines ≤ k) (cdv : Value) (A0 : Around) (outer : List PySem.Env) (s : Shared) (H : Hp) (E : XK) (hr : Room k (A0.deeper (envOfC "inner_lines" (defScope s_inner_lines) s.heap.objs.size A.a_inner_lines cdv))) :
    QSs (cxOf (L2.CX P w) P w K mg base N_inner_lines "inner_lines" (defScope s_inner_lines) A.a_inner_lines cdv A0 outer s H E) (fun c od _ H => E c od H) (defBody s_inner_lines) (w_inner_lines A p_statement_lines) := by
  have nd := sc_inner_lines.nd
  have tk : Takes (cxOf (L2.CX P w) P w K mg base N_inner_lines "inner_lines" (defScope s_inner_lines) A.a_inner_lines cdv A0 outer s H E) (fun c od _ H => E c od H) := takes_of rfl rfl rfl rfl
  exact (qss_cons (qs_set 2 nd (qe_lst qa_nil))
    (qss_cons (qs_for [3] (passes_of rfl) rfl (qi_tup (qe_var 0)) (qg_name 3 nd) (qss_one (qs_expr (qe_extend (qe_var 2) (qe_call tk G_statement_lines (hr.mono h_statement_lines) rfl T.m_statement_lines T.f_statement_lines.kp T.b_statement_lines (qa_cons (qe_var 3) (qa_cons (qe_var 1) qa_nil)))))))
    (qss_one (qs_ret (qe_var 2)))))
abbrev N_statement_lines : List Str := ["statement", "depth", "space", "lines", "head"]
theorem sc_statement_lines : FnScope N_statement_lines ["statement", "depth"] (defScope s_statement_lines) := ⟨rfl, rfl, rfl, by decide +kernel, rfl, by decide +kernel, by decide +kernel⟩
def w_statement_lines (A : Ads) (p_deed_text : SpD) (p_expression_text : SpD) (p_inner_lines : SpD) : DS :=
    (wSeq (wAsg (wOp mulD (wC (.str (tx "  "))) (wVar 1)) (gN 2))
    (wSeq (wIfS (wTst (wOp eqD (wOp ixD (wVar 0) (wC (.int 0))) (wC (.str (tx "node"))))) (wRet (wLst (wCons (wJ [(wFmt (wVar 2)), (wFmt (wOp ixD (wVar 0) (wC (.int 1)))), (wC (.str (tx ": "))), (wFmt (wCall p_deed_text (wCons (wOp ixD (wVar 0) (wC (.int 2))) wNil)))] []) wNil))) wNext)
    (wSeq (wIfS (wTst (wOp eqD (wOp ixD (wVar 0) (wC (.int 0))) (wC (.str (tx "if"))))) (wSeq (wAsg (wLst (wCons (wJ [(wFmt (wVar 2)), (wFmt (wOp ixD (wVar 0) (wC (.int 1)))), (wC (.str (tx ": if "))), (wFmt (wCall p_expression_text (wCons (wOp ixD (wVar 0) (wC (.int 2))) wNil))), (wC (.str (tx " {")))] []) wNil)) (gN 3))
    (wSeq (wEx (wBM "list" extendD (wVar 3) (wCons (wCall p_inner_lines (wCons (wOp ixD (wVar 0) (wC (.int 3))) (wCons (wOp addD (wVar 1) (wC (.int 1))) wNil))) wNil)))
    (wSeq (wIfS (wTru (wOp ixD (wVar 0) (wC (.int 4)))) (wSeq (wEx (wBM "list" appendD (wVar 3) (wCons (wOp addD (wVar 2) (wC (.str (tx "} else {")))) wNil)))
    (wEx (wBM "list" extendD (wVar 3) (wCons (wCall p_inner_lines (wCons (wOp ixD (wVar 0) (wC (.int 4))) (wCons (wOp addD (wVar 1) (wC (.int 1))) wNil))) wNil)))) wNext)
    (wRet (wOp addD (wVar 3) (wLst (wCons (wOp addD (wVar 2) (wC (.str (tx "}")))) wNil))))))) wNext)
    (wSeq (wIfS (wTst (wOp (inD false) (wOp ixD (wVar 0) (wC (.int 0))) (wTup (wCons (wC (.str (tx "block"))) (wCons (wC (.str (tx "loop"))) wNil))))) (wSeq (wAsg (wJ [(wFmt (wVar 2)), (wFmt (wOp ixD (wVar 0) (wC (.int 0)))), (wC (.str (tx " "))), (wFmt (wOp ixD (wVar 0) (wC (.int 1)))), (wC (.str (tx " {")))] []) (gN 4))
    (wRet (wOp addD (wOp addD (wLst (wCons (wVar 4) wNil)) (wCall p_inner_lines (wCons (wOp ixD (wVar 0) (wC (.int 2))) (wCons (wOp addD (wVar 1) (wC (.int 1))) wNil)))) (wLst (wCons (wOp addD (wVar 2) (wC (.str (tx "}")))) wNil))))) wNext)
    (wRet (wLst (wCons (wOp addD (wVar 2) (wBM "str" joinD (wC (.str (tx " "))) (wCons (wVar 0) wNil))) wNil)))))))
theorem der_statement_lines (T : Txt w K mg A) {k : Nat} {k_deed_text : Nat} {p_deed_text : SpD} (G_deed_text : FnD P w K mg base k_deed_text A.a_deed_text A.d_deed_text ["deed"] p_deed_text) (h_deed_text : k_deed_text ≤ k) {k_expression_text : Nat} {p_expression_text : SpD} (G_expression_text : FnD P w K mg base k_expression_text A.a_expression_text A.d_expression_text ["expression"] p_expression_text) (h_expression_text : k_expression_text ≤ k) {k_inner_lines : Nat} {p_inner_lines : SpD} (G_inner_lines : FnD P w K mg base k_inner_lines A.a_inner_lines A.d_inner_lines ["body", "depth"] p_inner_lines) (h_inner_lines : k_inner_lines ≤ k) (cdv : Value) (A0 : Around) (outer : List PySem.Env) (s : Shared) (H : Hp) (E : XK) (hr : Room k (A0.deeper (envOfC "statement_lines" (defScope s_statement_lines) s.heap.objs.size A.a_statement_lines cdv))) :
    QSs (cxOf (L2.CX P w) P w K mg base N_statement_lines "statement_lines" (defScope s_statement_lines) A.a_statement_lines cdv A0 outer s H E) (fun c od _ H => E c od H) (defBody s_statement_lines) (w_statement_lines A p_deed_text p_expression_text p_inner_lines) := by
  have nd := sc_statement_lines.nd
  have tk : Takes (cxOf (L2.CX P w) P w K mg base N_statement_lines "statement_lines" (defScope s_statement_lines) A.a_statement_lines cdv A0 outer s H E) (fun c od _ H => E c od H) := takes_of rfl rfl rfl rfl
  exact (qss_cons (qs_set 2 nd (qe_mul qe_str (qe_var 1)))
    (qss_cons (qs_if (qt_cmp (op_eqD (hu64 hr)) o2_eq (qe_ix (qe_var 0) qe_int) qe_str (nomark _)) (qss_one (qs_ret (qe_lst (qa_cons (qe_fstr (.cons (qj_val (qe_var 2)) (.cons (qj_val (qe_ix (qe_var 0) qe_int)) (.cons qe_str (.cons (qj_val (qe_call tk G_deed_text (hr.mono h_deed_text) rfl T.m_deed_text T.f_deed_text.kp T.b_deed_text (qa_cons (qe_ix (qe_var 0) qe_int) qa_nil))) .nil))))) qa_nil)))) qss_nil)
    (qss_cons (qs_if (qt_cmp (op_eqD (hu64 hr)) o2_eq (qe_ix (qe_var 0) qe_int) qe_str (nomark _)) (qss_cons (qs_set 3 nd (qe_lst (qa_cons (qe_fstr (.cons (qj_val (qe_var 2)) (.cons (qj_val (qe_ix (qe_var 0) qe_int)) (.cons qe_str (.cons (qj_val (qe_call tk G_expression_text (hr.mono h_expression_text) rfl T.m_expression_text T.f_expression_text.kp T.b_expression_text (qa_cons (qe_ix (qe_var 0) qe_int) qa_nil))) (.cons qe_str .nil)))))) qa_nil)))
    (qss_cons (qs_expr (qe_extend (qe_var 3) (qe_call tk G_inner_lines (hr.mono h_inner_lines) rfl T.m_inner_lines T.f_inner_lines.kp T.b_inner_lines (qa_cons (qe_ix (qe_var 0) qe_int) (qa_cons (qe_add (qe_var 1) qe_int) qa_nil)))))
    (qss_cons (qs_if (qt_tru (qe_ix (qe_var 0) qe_int)) (qss_cons (qs_expr (qe_append (qe_var 3) (qe_add (qe_var 2) qe_str)))
    (qss_one (qs_expr (qe_extend (qe_var 3) (qe_call tk G_inner_lines (hr.mono h_inner_lines) rfl T.m_inner_lines T.f_inner_lines.kp T.b_inner_lines (qa_cons (qe_ix (qe_var 0) qe_int) (qa_cons (qe_add (qe_var 1) qe_int) qa_nil))))))) qss_nil)
    (qss_one (qs_ret (qe_add (qe_var 3) (qe_lst (qa_cons (qe_add (qe_var 2) qe_str) qa_nil)))))))) qss_nil)
    (qss_cons (qs_if (qt_cmp (op_inAll (hu65 hr)) o2_in (qe_ix (qe_var 0) qe_int) (qe_tup (qa_cons qe_str (qa_cons qe_str qa_nil))) (by with_unfolding_all rfl)) (qss_cons (qs_set 4 nd (qe_fstr (.cons (qj_val (qe_var 2)) (.cons (qj_val (qe_ix (qe_var 0) qe_int)) (.cons qe_str (.cons (qj_val (qe_ix (qe_var 0) qe_int)) (.cons qe_str .nil)))))))
    (qss_one (qs_ret (qe_add (qe_add (qe_lst (qa_cons (qe_var 4) qa_nil)) (qe_call tk G_inner_lines (hr.mono h_inner_lines) rfl T.m_inner_lines T.f_inner_lines.kp T.b_inner_lines (qa_cons (qe_ix (qe_var 0) qe_int) (qa_cons (qe_add (qe_var 1) qe_int) qa_nil)))) (qe_lst (qa_cons (qe_add (qe_var 2) qe_str) qa_nil)))))) qss_nil)
    (qss_one (qs_ret (qe_lst (qa_cons (qe_add (qe_var 2) (qe_join qe_str (qe_var 0))) qa_nil))))))))
abbrev N_body_text : List Str := ["body"]
theorem sc_body_text : FnScope N_body_text ["body"] (defScope s_body_text) := ⟨rfl, rfl, rfl, by decide +kernel, rfl, by decide +kernel, by decide +kernel⟩
def w_body_text (A : Ads) (p_inner_lines : SpD) : DS :=
    (wRet (wBM "str" joinD (wC (.str (tx "\n"))) (wCons (wCall p_inner_lines (wCons (wVar 0) (wCons (wC (.int 0)) wNil))) wNil)))
theorem der_body_text (T : Txt w K mg A) {k : Nat} {k_inner_lines : Nat} {p_inner_lines : SpD} (G_inner_lines : FnD P w K mg base k_inner_lines A.a_inner_lines A.d_inner_lines ["body", "depth"] p_inner_lines) (h_inner_lines : k_inner_lines ≤ k) (cdv : Value) (A0 : Around) (outer : List PySem.Env) (s : Shared) (H : Hp) (E : XK) (hr : Room k (A0.deeper (envOfC "body_text" (defScope s_body_text) s.heap.objs.size A.a_body_text cdv))) :
    QSs (cxOf (L2.CX P w) P w K mg base N_body_text "body_text" (defScope s_body_text) A.a_body_text cdv A0 outer s H E) (fun c od _ H => E c od H) (defBody s_body_text) (w_body_text A p_inner_lines) := by
  have nd := sc_body_text.nd
  have tk : Takes (cxOf (L2.CX P w) P w K mg base N_body_text "body_text" (defScope s_body_text) A.a_body_text cdv A0 outer s H E) (fun c od _ H => E c od H) := takes_of rfl rfl rfl rfl
  exact (qss_one (qs_ret (qe_join qe_str (qe_call tk G_inner_lines (hr.mono h_inner_lines) rfl T.m_inner_lines T.f_inner_lines.kp T.b_inner_lines (qa_cons (qe_var 0) (qa_cons qe_int qa_nil))))))
abbrev N_law_cell : List Str := ["_law_script", "_law_k"]
theorem sc_law_cell : FnScope N_law_cell ["_law_script", "_law_k"] (defScope s_law_cell) := ⟨rfl, rfl, rfl, by decide +kernel, rfl, by decide +kernel, by decide +kernel⟩
def w_law_cell (A : Ads) : DS :=
    (wSeq (wIfS (wTst (wOp ltD (wVar 1) (wApp lenD (wCons (wVar 0) wNil)))) (wRet (wApp intOf (wCons (wOp ixD (wVar 0) (wVar 1)) wNil))) wNext)
    (wRet (wC (.int 0))))
theorem der_law_cell (T : Txt w K mg A) {k : Nat} (cdv : Value) (A0 : Around) (outer : List PySem.Env) (s : Shared) (H : Hp) (E : XK) (hr : Room k (A0.deeper (envOfC "_law_cell" (defScope s_law_cell) s.heap.objs.size A.a_law_cell cdv))) :
    QSs (cxOf (L2.CX P w) P w K mg base N_law_cell "_law_cell" (defScope s_law_cell) A.a_law_cell cdv A0 outer s H E) (fun c od _ H => E c od H) (defBody s_law_cell) (w_law_cell A) := by
  have nd := sc_law_cell.nd
  have tk : Takes (cxOf (L2.CX P w) P w K mg base N_law_cell "_law_cell" (defScope s_law_cell) A.a_law_cell cdv A0 outer s H E) (fun c od _ H => E c od H) := takes_of rfl rfl rfl rfl
  exact (qss_cons (qs_if (qt_cmp op_lt o2_lt (qe_var 1) (qe_len rfl T.z_len (qe_var 0)) (nomark _)) (qss_one (qs_ret (qe_callTy call_intAll ol_int rfl T.z_int (show bootBuiltins "int" = some (.type "int") by decide +kernel) (qa_cons (qe_ix (qe_var 0) (qe_var 1)) qa_nil)))) qss_nil)
    (qss_one (qs_ret qe_int)))
abbrev N_law_draws : List Str := ["_law_cell_here", "_law_count", "_law_number_here", "_law_great", "_law_found", "_law_k", "_law_mixed"]
theorem sc_law_draws : FnScope N_law_draws ["_law_cell_here", "_law_count"] (defScope s_law_draws) := ⟨rfl, rfl, rfl, by decide +kernel, rfl, by decide +kernel, by decide +kernel⟩
def w_law_draws (A : Ads) : DS :=
    (wSeq (wAsg (wApp absD (wCons (wApp intOf (wCons (wVar 0) wNil)) wNil)) (gN 2))
    (wSeq (wAsg (wOp geD (wVar 2) (wOp powD (wC (.int 10)) (wC (.int 18)))) (gN 3))
    (wSeq (wAsg (wLst wNil) (gN 4))
    (wSeq (wFor (wRng1 (wCons (wC (.int 60)) wNil)) (gN 5) (wIfS (wAnd (wTst (wOp ltD (wVar 5) (wVar 1))) (wTru (wVar 3))) (wSeq (wEx (wBM "list" appendD (wVar 4) (wCons (wOp modD (wVar 2) (wC (.int 60))) wNil)))
    (wAsg (wOp divD (wVar 2) (wC (.int 60))) (gN 2))) (wIfS (wTst (wOp ltD (wVar 5) (wVar 1))) (wSeq (wAsg (wOp modD (wOp addD (wOp addD (wOp mulD (wApp intOf (wCons (wVar 2) wNil)) (wC (.int 48271))) (wOp mulD (wVar 5) (wC (.int 69621)))) (wC (.int 11))) (wC (.int 2147483647))) (gN 6))
    (wSeq (wAsg (wOp modD (wOp addD (wOp addD (wOp mulD (wApp intOf (wCons (wVar 6) wNil)) (wApp intOf (wCons (wVar 6) wNil))) (wOp mulD (wVar 5) (wC (.int 7919)))) (wC (.int 5))) (wC (.int 998244353))) (gN 6))
    (wEx (wBM "list" appendD (wVar 4) (wCons (wOp modD (wApp intOf (wCons (wVar 6) wNil)) (wC (.int 60))) wNil))))) wNext)))
    (wRet (wVar 4))))))
theorem der_law_draws (T : Txt w K mg A) {k : Nat} (cdv : Value) (A0 : Around) (outer : List PySem.Env) (s : Shared) (H : Hp) (E : XK) (hr : Room k (A0.deeper (envOfC "_law_draws" (defScope s_law_draws) s.heap.objs.size A.a_law_draws cdv))) :
    QSs (cxOf (L2.CX P w) P w K mg base N_law_draws "_law_draws" (defScope s_law_draws) A.a_law_draws cdv A0 outer s H E) (fun c od _ H => E c od H) (defBody s_law_draws) (w_law_draws A) := by
  have nd := sc_law_draws.nd
  have tk : Takes (cxOf (L2.CX P w) P w K mg base N_law_draws "_law_draws" (defScope s_law_draws) A.a_law_draws cdv A0 outer s H E) (fun c od _ H => E c od H) := takes_of rfl rfl rfl rfl
  exact (qss_cons (qs_set 2 nd (qe_callB call_abs ol_abs rfl T.z_abs (show bootBuiltins "abs" = some (.builtin "abs") by decide +kernel) (qa_cons (qe_callTy call_intAll ol_int rfl T.z_int (show bootBuiltins "int" = some (.type "int") by decide +kernel) (qa_cons (qe_var 0) qa_nil)) qa_nil)))
    (qss_cons (qs_set 3 nd (qe_cmp op_ge o2_ge (qe_var 2) (qe_pow qe_int qe_int) (nomark _)))
    (qss_cons (qs_set 4 nd (qe_lst qa_nil))
    (qss_cons (qs_for [5] (passes_of rfl) rfl (qi_rng1 rfl T.z_range qe_int) (qg_name 5 nd) (qss_one (qs_if (qt_bool (qw_and (qt_cmp op_lt o2_lt (qe_var 5) (qe_var 1) (nomark _)) (qw_and1 (qt_tru (qe_var 3))))) (qss_cons (qs_expr (qe_append (qe_var 4) (qe_mod (qe_var 2) qe_int)))
    (qss_one (qs_set 2 nd (qe_div (qe_var 2) qe_int)))) (qss_one (qs_if (qt_cmp op_lt o2_lt (qe_var 5) (qe_var 1) (nomark _)) (qss_cons (qs_set 6 nd (qe_mod (qe_add (qe_add (qe_mul (qe_callTy call_intAll ol_int rfl T.z_int (show bootBuiltins "int" = some (.type "int") by decide +kernel) (qa_cons (qe_var 2) qa_nil)) qe_int) (qe_mul (qe_var 5) qe_int)) qe_int) qe_int))
    (qss_cons (qs_set 6 nd (qe_mod (qe_add (qe_add (qe_mul (qe_callTy call_intAll ol_int rfl T.z_int (show bootBuiltins "int" = some (.type "int") by decide +kernel) (qa_cons (qe_var 6) qa_nil)) (qe_callTy call_intAll ol_int rfl T.z_int (show bootBuiltins "int" = some (.type "int") by decide +kernel) (qa_cons (qe_var 6) qa_nil))) (qe_mul (qe_var 5) qe_int)) qe_int) qe_int))
    (qss_one (qs_expr (qe_append (qe_var 4) (qe_mod (qe_callTy call_intAll ol_int rfl T.z_int (show bootBuiltins "int" = some (.type "int") by decide +kernel) (qa_cons (qe_var 6) qa_nil)) qe_int)))))) qss_nil)))))
    (qss_one (qs_ret (qe_var 4)))))))
abbrev N_law_stream : List Str := ["_law_script", "_law_first", "_law_count", "_law_found", "_law_k"]
theorem sc_law_stream : FnScope N_law_stream ["_law_script", "_law_first", "_law_count"] (defScope s_law_stream) := ⟨rfl, rfl, rfl, by decide +kernel, rfl, by decide +kernel, by decide +kernel⟩
def w_law_stream (A : Ads) (p_law_draws : SpD) (p_law_cell : SpD) : DS :=
    (wSeq (wAsg (wLst wNil) (gN 3))
    (wSeq (wFor (wRng1 (wCons (wVar 2) wNil)) (gN 4) (wEx (wBM "list" extendD (wVar 3) (wCons (wCall p_law_draws (wCons (wCall p_law_cell (wCons (wVar 0) (wCons (wOp addD (wVar 1) (wVar 4)) wNil))) (wCons (wC (.int 12)) wNil))) wNil))))
    (wRet (wLst (wCons (wVar 3) (wCons (wLst (wCons (wC (.int 0)) wNil)) wNil))))))
theorem der_law_stream (T : Txt w K mg A) {k : Nat} {k_law_draws : Nat} {p_law_draws : SpD} (G_law_draws : FnD P w K mg base k_law_draws A.a_law_draws A.d_law_draws ["_law_cell_here", "_law_count"] p_law_draws) (h_law_draws : k_law_draws ≤ k) {k_law_cell : Nat} {p_law_cell : SpD} (G_law_cell : FnD P w K mg base k_law_cell A.a_law_cell A.d_law_cell ["_law_script", "_law_k"] p_law_cell) (h_law_cell : k_law_cell ≤ k) (cdv : Value) (A0 : Around) (outer : List PySem.Env) (s : Shared) (H : Hp) (E : XK) (hr : Room k (A0.deeper (envOfC "_law_stream" (defScope s_law_stream) s.heap.objs.size A.a_law_stream cdv))) :
    QSs (cxOf (L2.CX P w) P w K mg base N_law_stream "_law_stream" (defScope s_law_stream) A.a_law_stream cdv A0 outer s H E) (fun c od _ H => E c od H) (defBody s_law_stream) (w_law_stream A p_law_draws p_law_cell) := by
  have nd := sc_law_stream.nd
  have tk : Takes (cxOf (L2.CX P w) P w K mg base N_law_stream "_law_stream" (defScope s_law_stream) A.a_law_stream cdv A0 outer s H E) (fun c od _ H => E c od H) := takes_of rfl rfl rfl rfl
  exact (qss_cons (qs_set 3 nd (qe_lst qa_nil))
    (qss_cons (qs_for [4] (passes_of rfl) rfl (qi_rng1 rfl T.z_range (qe_var 2)) (qg_name 4 nd) (qss_one (qs_expr (qe_extend (qe_var 3) (qe_call tk G_law_draws (hr.mono h_law_draws) rfl T.m_law_draws T.f_law_draws.kp T.b_law_draws (qa_cons (qe_call tk G_law_cell (hr.mono h_law_cell) rfl T.m_law_cell T.f_law_cell.kp T.b_law_cell (qa_cons (qe_var 0) (qa_cons (qe_add (qe_var 1) (qe_var 4)) qa_nil))) (qa_cons qe_int qa_nil)))))))
    (qss_one (qs_ret (qe_lst (qa_cons (qe_var 3) (qa_cons (qe_lst (qa_cons qe_int qa_nil)) qa_nil)))))))
abbrev N_law_next : List Str := ["_law_stream_here", "_law_many", "_law_digits", "_law_place", "_law_value"]
theorem sc_law_next : FnScope N_law_next ["_law_stream_here", "_law_many"] (defScope s_law_next) := ⟨rfl, rfl, rfl, by decide +kernel, rfl, by decide +kernel, by decide +kernel⟩
def w_law_next (A : Ads) : DS :=
    (wSeq (wAsg (wOp ixD (wVar 0) (wC (.int 0))) (gN 2))
    (wSeq (wAsg (wOp ixD (wVar 0) (wC (.int 1))) (gN 3))
    (wSeq (wAsg (wOp modD (wApp intOf (wCons (wOp ixD (wVar 2) (wOp modD (wApp intOf (wCons (wOp ixD (wVar 3) (wC (.int 0))) wNil)) (wApp lenD (wCons (wVar 2) wNil)))) wNil)) (wVar 1)) (gN 4))
    (wSeq (wSetL (wVar 3) (wC (.int 0)) (wOp addD (wOp ixD (wVar 3) (wC (.int 0))) (wC (.int 1))))
    (wRet (wVar 4))))))
theorem der_law_next (T : Txt w K mg A) {k : Nat} (cdv : Value) (A0 : Around) (outer : List PySem.Env) (s : Shared) (H : Hp) (E : XK) (hr : Room k (A0.deeper (envOfC "_law_next" (defScope s_law_next) s.heap.objs.size A.a_law_next cdv))) :
    QSs (cxOf (L2.CX P w) P w K mg base N_law_next "_law_next" (defScope s_law_next) A.a_law_next cdv A0 outer s H E) (fun c od _ H => E c od H) (defBody s_law_next) (w_law_next A) := by
  have nd := sc_law_next.nd
  have tk : Takes (cxOf (L2.CX P w) P w K mg base N_law_next "_law_next" (defScope s_law_next) A.a_law_next cdv A0 outer s H E) (fun c od _ H => E c od H) := takes_of rfl rfl rfl rfl
  exact (qss_cons (qs_set 2 nd (qe_ix (qe_var 0) qe_int))
    (qss_cons (qs_set 3 nd (qe_ix (qe_var 0) qe_int))
    (qss_cons (qs_set 4 nd (qe_mod (qe_callTy call_intAll ol_int rfl T.z_int (show bootBuiltins "int" = some (.type "int") by decide +kernel) (qa_cons (qe_ix (qe_var 2) (qe_mod (qe_callTy call_intAll ol_int rfl T.z_int (show bootBuiltins "int" = some (.type "int") by decide +kernel) (qa_cons (qe_ix (qe_var 3) qe_int) qa_nil)) (qe_len rfl T.z_len (qe_var 2)))) qa_nil)) (qe_var 1)))
    (qss_cons (qs_setL (qe_var 3) qe_int (qe_add (qe_ix (qe_var 3) qe_int) qe_int))
    (qss_one (qs_ret (qe_var 4)))))))
abbrev N_law_variable : List Str := ["_law_stream_here"]
theorem sc_law_variable : FnScope N_law_variable ["_law_stream_here"] (defScope s_law_variable) := ⟨rfl, rfl, rfl, by decide +kernel, rfl, by decide +kernel, by decide +kernel⟩
def w_law_variable (A : Ads) (p_law_next : SpD) : DS :=
    (wRet (wOp ixD (wLst (wCons (wC (.str (tx "n"))) (wCons (wC (.str (tx "i"))) (wCons (wC (.str (tx "x"))) (wCons (wC (.str (tx "total"))) (wCons (wC (.str (tx "q"))) wNil)))))) (wCall p_law_next (wCons (wVar 0) (wCons (wC (.int 5)) wNil)))))
theorem der_law_variable (T : Txt w K mg A) {k : Nat} {k_law_next : Nat} {p_law_next : SpD} (G_law_next : FnD P w K mg base k_law_next A.a_law_next A.d_law_next ["_law_stream_here", "_law_many"] p_law_next) (h_law_next : k_law_next ≤ k) (cdv : Value) (A0 : Around) (outer : List PySem.Env) (s : Shared) (H : Hp) (E : XK) (hr : Room k (A0.deeper (envOfC "_law_variable" (defScope s_law_variable) s.heap.objs.size A.a_law_variable cdv))) :
    QSs (cxOf (L2.CX P w) P w K mg base N_law_variable "_law_variable" (defScope s_law_variable) A.a_law_variable cdv A0 outer s H E) (fun c od _ H => E c od H) (defBody s_law_variable) (w_law_variable A p_law_next) := by
  have nd := sc_law_variable.nd
  have tk : Takes (cxOf (L2.CX P w) P w K mg base N_law_variable "_law_variable" (defScope s_law_variable) A.a_law_variable cdv A0 outer s H E) (fun c od _ H => E c od H) := takes_of rfl rfl rfl rfl
  exact (qss_one (qs_ret (qe_ix (qe_lst (qa_cons qe_str (qa_cons qe_str (qa_cons qe_str (qa_cons qe_str (qa_cons qe_str qa_nil)))))) (qe_call tk G_law_next (hr.mono h_law_next) rfl T.m_law_next T.f_law_next.kp T.b_law_next (qa_cons (qe_var 0) (qa_cons qe_int qa_nil))))))
abbrev N_law_number : List Str := ["_law_stream_here", "_law_kind"]
theorem sc_law_number : FnScope N_law_number ["_law_stream_here"] (defScope s_law_number) := ⟨rfl, rfl, rfl, by decide +kernel, rfl, by decide +kernel, by decide +kernel⟩
def w_law_number (A : Ads) (p_law_next : SpD) : DS :=
    (wSeq (wAsg (wCall p_law_next (wCons (wVar 0) (wCons (wC (.int 4)) wNil))) (gN 1))
    (wSeq (wIfS (wTst (wOp eqD (wVar 1) (wC (.int 0)))) (wRet (wOp subD (wC (.int 1000000)) (wOp mulD (wCall p_law_next (wCons (wVar 0) (wCons (wC (.int 60)) wNil))) (wOp ixD (wLst (wCons (wC (.int 1)) (wCons (wC (.int 16949)) wNil))) (wCall p_law_next (wCons (wVar 0) (wCons (wC (.int 2)) wNil))))))) wNext)
    (wSeq (wIfS (wTst (wOp eqD (wVar 1) (wC (.int 1)))) (wRet (wOp addD (wOp mulD (wCall p_law_next (wCons (wVar 0) (wCons (wC (.int 60)) wNil))) (wC (.int 60))) (wCall p_law_next (wCons (wVar 0) (wCons (wC (.int 60)) wNil))))) wNext)
    (wRet (wCall p_law_next (wCons (wVar 0) (wCons (wC (.int 10)) wNil)))))))
theorem der_law_number (T : Txt w K mg A) {k : Nat} {k_law_next : Nat} {p_law_next : SpD} (G_law_next : FnD P w K mg base k_law_next A.a_law_next A.d_law_next ["_law_stream_here", "_law_many"] p_law_next) (h_law_next : k_law_next ≤ k) (cdv : Value) (A0 : Around) (outer : List PySem.Env) (s : Shared) (H : Hp) (E : XK) (hr : Room k (A0.deeper (envOfC "_law_number" (defScope s_law_number) s.heap.objs.size A.a_law_number cdv))) :
    QSs (cxOf (L2.CX P w) P w K mg base N_law_number "_law_number" (defScope s_law_number) A.a_law_number cdv A0 outer s H E) (fun c od _ H => E c od H) (defBody s_law_number) (w_law_number A p_law_next) := by
  have nd := sc_law_number.nd
  have tk : Takes (cxOf (L2.CX P w) P w K mg base N_law_number "_law_number" (defScope s_law_number) A.a_law_number cdv A0 outer s H E) (fun c od _ H => E c od H) := takes_of rfl rfl rfl rfl
  exact (qss_cons (qs_set 1 nd (qe_call tk G_law_next (hr.mono h_law_next) rfl T.m_law_next T.f_law_next.kp T.b_law_next (qa_cons (qe_var 0) (qa_cons qe_int qa_nil))))
    (qss_cons (qs_if (qt_cmp (op_eqD (hu64 hr)) o2_eq (qe_var 1) qe_int (nomark _)) (qss_one (qs_ret (qe_sub qe_int (qe_mul (qe_call tk G_law_next (hr.mono h_law_next) rfl T.m_law_next T.f_law_next.kp T.b_law_next (qa_cons (qe_var 0) (qa_cons qe_int qa_nil))) (qe_ix (qe_lst (qa_cons qe_int (qa_cons qe_int qa_nil))) (qe_call tk G_law_next (hr.mono h_law_next) rfl T.m_law_next T.f_law_next.kp T.b_law_next (qa_cons (qe_var 0) (qa_cons qe_int qa_nil)))))))) qss_nil)
    (qss_cons (qs_if (qt_cmp (op_eqD (hu64 hr)) o2_eq (qe_var 1) qe_int (nomark _)) (qss_one (qs_ret (qe_add (qe_mul (qe_call tk G_law_next (hr.mono h_law_next) rfl T.m_law_next T.f_law_next.kp T.b_law_next (qa_cons (qe_var 0) (qa_cons qe_int qa_nil))) qe_int) (qe_call tk G_law_next (hr.mono h_law_next) rfl T.m_law_next T.f_law_next.kp T.b_law_next (qa_cons (qe_var 0) (qa_cons qe_int qa_nil)))))) qss_nil)
    (qss_one (qs_ret (qe_call tk G_law_next (hr.mono h_law_next) rfl T.m_law_next T.f_law_next.kp T.b_law_next (qa_cons (qe_var 0) (qa_cons qe_int qa_nil))))))))
abbrev N_law_expression : List Str := ["_law_stream_here", "_law_depth", "_law_kind", "_law_sign"]
theorem sc_law_expression : FnScope N_law_expression ["_law_stream_here", "_law_depth"] (defScope s_law_expression) := ⟨rfl, rfl, rfl, by decide +kernel, rfl, by decide +kernel, by decide +kernel⟩
def w_law_expression (A : Ads) (p_law_next : SpD) (p_law_number : SpD) (p_law_variable : SpD) (p_law_expression : SpD) : DS :=
    (wSeq (wAsg (wCall p_law_next (wCons (wVar 0) (wCons (wC (.int 8)) wNil))) (gN 2))
    (wSeq (wIfS (wOr (wTst (wOp eqD (wVar 1) (wC (.int 0)))) (wTst (wOp leD (wVar 2) (wC (.int 1))))) (wRet (wTup (wCons (wC (.str (tx "number"))) (wCons (wCall p_law_number (wCons (wVar 0) wNil)) wNil)))) wNext)
    (wSeq (wIfS (wTst (wOp leD (wVar 2) (wC (.int 3)))) (wRet (wTup (wCons (wC (.str (tx "variable"))) (wCons (wCall p_law_variable (wCons (wVar 0) wNil)) wNil)))) wNext)
    (wSeq (wAsg (wOp ixD (wLst (wCons (wC (.str (tx "="))) (wCons (wC (.str (tx "<"))) (wCons (wC (.str (tx "+"))) (wCons (wC (.str (tx "-"))) (wCons (wC (.str (tx "*"))) (wCons (wC (.str (tx "+"))) (wCons (wC (.str (tx "-"))) wNil)))))))) (wCall p_law_next (wCons (wVar 0) (wCons (wC (.int 7)) wNil)))) (gN 3))
    (wRet (wTup (wCons (wVar 3) (wCons (wCall p_law_expression (wCons (wVar 0) (wCons (wOp subD (wVar 1) (wC (.int 1))) wNil))) (wCons (wCall p_law_expression (wCons (wVar 0) (wCons (wOp subD (wVar 1) (wC (.int 1))) wNil))) wNil)))))))))
theorem der_law_expression (T : Txt w K mg A) {k : Nat} {k_law_next : Nat} {p_law_next : SpD} (G_law_next : FnD P w K mg base k_law_next A.a_law_next A.d_law_next ["_law_stream_here", "_law_many"] p_law_next) (h_law_next : k_law_next ≤ k) {k_law_number : Nat} {p_law_number : SpD} (G_law_number : FnD P w K mg base k_law_number A.a_law_number A.d_law_number ["_law_stream_here"] p_law_number) (h_law_number : k_law_number ≤ k) {k_law_variable : Nat} {p_law_variable : SpD} (G_law_variable : FnD P w K mg base k_law_variable A.a_law_variable A.d_law_variable ["_law_stream_here"] p_law_variable) (h_law_variable : k_law_variable ≤ k) {k_law_expression : Nat} {p_law_expression : SpD} (G_law_expression : FnD P w K mg base k_law_expression A.a_law_expression A.d_law_expression ["_law_stream_here", "_law_depth"] p_law_expression) (h_law_expression : k_law_expression ≤ k) (cdv : Value) (A0 : Around) (outer : List PySem.Env) (s : Shared) (H : Hp) (E : XK) (hr : Room k (A0.deeper (envOfC "_law_expression" (defScope s_law_expression) s.heap.objs.size A.a_law_expression cdv))) :
    QSs (cxOf (L2.CX P w) P w K mg base N_law_expression "_law_expression" (defScope s_law_expression) A.a_law_expression cdv A0 outer s H E) (fun c od _ H => E c od H) (defBody s_law_expression) (w_law_expression A p_law_next p_law_number p_law_variable p_law_expression) := by
  have nd := sc_law_expression.nd
  have tk : Takes (cxOf (L2.CX P w) P w K mg base N_law_expression "_law_expression" (defScope s_law_expression) A.a_law_expression cdv A0 outer s H E) (fun c od _ H => E c od H) := takes_of rfl rfl rfl rfl
  exact (qss_cons (qs_set 2 nd (qe_call tk G_law_next (hr.mono h_law_next) rfl T.m_law_next T.f_law_next.kp T.b_law_next (qa_cons (qe_var 0) (qa_cons qe_int qa_nil))))
    (qss_cons (qs_if (qt_bool (qw_or (qt_cmp (op_eqD (hu64 hr)) o2_eq (qe_var 1) qe_int (nomark _)) (qw_or1 (qt_cmp op_le o2_le (qe_var 2) qe_int (nomark _))))) (qss_one (qs_ret (qe_tup (qa_cons qe_str (qa_cons (qe_call tk G_law_number (hr.mono h_law_number) rfl T.m_law_number T.f_law_number.kp T.b_law_number (qa_cons (qe_var 0) qa_nil)) qa_nil))))) qss_nil)
    (qss_cons (qs_if (qt_cmp op_le o2_le (qe_var 2) qe_int (nomark _)) (qss_one (qs_ret (qe_tup (qa_cons qe_str (qa_cons (qe_call tk G_law_variable (hr.mono h_law_variable) rfl T.m_law_variable T.f_law_variable.kp T.b_law_variable (qa_cons (qe_var 0) qa_nil)) qa_nil))))) qss_nil)
    (qss_cons (qs_set 3 nd (qe_ix (qe_lst (qa_cons qe_str (qa_cons qe_str (qa_cons qe_str (qa_cons qe_str (qa_cons qe_str (qa_cons qe_str (qa_cons qe_str qa_nil)))))))) (qe_call tk G_law_next (hr.mono h_law_next) rfl T.m_law_next T.f_law_next.kp T.b_law_next (qa_cons (qe_var 0) (qa_cons qe_int qa_nil)))))
    (qss_one (qs_ret (qe_tup (qa_cons (qe_var 3) (qa_cons (qe_call tk G_law_expression (hr.mono h_law_expression) rfl T.m_law_expression T.f_law_expression.kp T.b_law_expression (qa_cons (qe_var 0) (qa_cons (qe_sub (qe_var 1) qe_int) qa_nil))) (qa_cons (qe_call tk G_law_expression (hr.mono h_law_expression) rfl T.m_law_expression T.f_law_expression.kp T.b_law_expression (qa_cons (qe_var 0) (qa_cons (qe_sub (qe_var 1) qe_int) qa_nil))) qa_nil))))))))))
abbrev N_law_level : List Str := ["_law_sign"]
theorem sc_law_level : FnScope N_law_level ["_law_sign"] (defScope s_law_level) := ⟨rfl, rfl, rfl, by decide +kernel, rfl, by decide +kernel, by decide +kernel⟩
def w_law_level (A : Ads) : DS :=
    (wSeq (wIfS (wTst (wOp (inD false) (wVar 0) (wLst (wCons (wC (.str (tx "="))) (wCons (wC (.str (tx "<"))) wNil))))) (wRet (wC (.int 0))) wNext)
    (wSeq (wIfS (wTst (wOp (inD false) (wVar 0) (wLst (wCons (wC (.str (tx "+"))) (wCons (wC (.str (tx "-"))) wNil))))) (wRet (wC (.int 1))) wNext)
    (wRet (wC (.int 2)))))
theorem der_law_level (T : Txt w K mg A) {k : Nat} (cdv : Value) (A0 : Around) (outer : List PySem.Env) (s : Shared) (H : Hp) (E : XK) (hr : Room k (A0.deeper (envOfC "_law_level" (defScope s_law_level) s.heap.objs.size A.a_law_level cdv))) :
    QSs (cxOf (L2.CX P w) P w K mg base N_law_level "_law_level" (defScope s_law_level) A.a_law_level cdv A0 outer s H E) (fun c od _ H => E c od H) (defBody s_law_level) (w_law_level A) := by
  have nd := sc_law_level.nd
  have tk : Takes (cxOf (L2.CX P w) P w K mg base N_law_level "_law_level" (defScope s_law_level) A.a_law_level cdv A0 outer s H E) (fun c od _ H => E c od H) := takes_of rfl rfl rfl rfl
  exact (qss_cons (qs_if (qt_cmp (op_inAll (hu65 hr)) o2_in (qe_var 0) (qe_lst (qa_cons qe_str (qa_cons qe_str qa_nil))) (by with_unfolding_all rfl)) (qss_one (qs_ret qe_int)) qss_nil)
    (qss_cons (qs_if (qt_cmp (op_inAll (hu65 hr)) o2_in (qe_var 0) (qe_lst (qa_cons qe_str (qa_cons qe_str qa_nil))) (by with_unfolding_all rfl)) (qss_one (qs_ret qe_int)) qss_nil)
    (qss_one (qs_ret qe_int))))
abbrev N_law_expression_text : List Str := ["_law_expression_here", "_law_level_here", "_law_own", "_law_left", "_law_text"]
theorem sc_law_expression_text : FnScope N_law_expression_text ["_law_expression_here", "_law_level_here"] (defScope s_law_expression_text) := ⟨rfl, rfl, rfl, by decide +kernel, rfl, by decide +kernel, by decide +kernel⟩
def w_law_expression_text (A : Ads) (p_law_level : SpD) (p_law_expression_text : SpD) : DS :=
    (wSeq (wIfS (wTst (wOp (inD false) (wOp ixD (wVar 0) (wC (.int 0))) (wLst (wCons (wC (.str (tx "number"))) (wCons (wC (.str (tx "variable"))) wNil))))) (wRet (wApp strOf (wCons (wOp ixD (wVar 0) (wC (.int 1))) wNil))) wNext)
    (wSeq (wAsg (wCall p_law_level (wCons (wOp ixD (wVar 0) (wC (.int 0))) wNil)) (gN 2))
    (wSeq (wAsg (wCall p_law_expression_text (wCons (wOp ixD (wVar 0) (wC (.int 1))) (wCons (wApp maxD (wCons (wVar 2) (wCons (wC (.int 1)) wNil))) wNil))) (gN 3))
    (wSeq (wAsg (wOp addD (wOp addD (wOp addD (wOp addD (wVar 3) (wC (.str (tx " ")))) (wOp ixD (wVar 0) (wC (.int 0)))) (wC (.str (tx " ")))) (wCall p_law_expression_text (wCons (wOp ixD (wVar 0) (wC (.int 2))) (wCons (wOp addD (wVar 2) (wC (.int 1))) wNil)))) (gN 4))
    (wSeq (wIfS (wTst (wOp ltD (wVar 2) (wVar 1))) (wRet (wOp addD (wOp addD (wC (.str (tx "("))) (wVar 4)) (wC (.str (tx ")"))))) wNext)
    (wRet (wVar 4)))))))
theorem der_law_expression_text (T : Txt w K mg A) {k : Nat} {k_law_level : Nat} {p_law_level : SpD} (G_law_level : FnD P w K mg base k_law_level A.a_law_level A.d_law_level ["_law_sign"] p_law_level) (h_law_level : k_law_level ≤ k) {k_law_expression_text : Nat} {p_law_expression_text : SpD} (G_law_expression_text : FnD P w K mg base k_law_expression_text A.a_law_expression_text A.d_law_expression_text ["_law_expression_here", "_law_level_here"] p_law_expression_text) (h_law_expression_text : k_law_expression_text ≤ k) (cdv : Value) (A0 : Around) (outer : List PySem.Env) (s : Shared) (H : Hp) (E : XK) (hr : Room k (A0.deeper (envOfC "_law_expression_text" (defScope s_law_expression_text) s.heap.objs.size A.a_law_expression_text cdv))) :
    QSs (cxOf (L2.CX P w) P w K mg base N_law_expression_text "_law_expression_text" (defScope s_law_expression_text) A.a_law_expression_text cdv A0 outer s H E) (fun c od _ H => E c od H) (defBody s_law_expression_text) (w_law_expression_text A p_law_level p_law_expression_text) := by
  have nd := sc_law_expression_text.nd
  have tk : Takes (cxOf (L2.CX P w) P w K mg base N_law_expression_text "_law_expression_text" (defScope s_law_expression_text) A.a_law_expression_text cdv A0 outer s H E) (fun c od _ H => E c od H) := takes_of rfl rfl rfl rfl
  exact (qss_cons (qs_if (qt_cmp (op_inAll (hu65 hr)) o2_in (qe_ix (qe_var 0) qe_int) (qe_lst (qa_cons qe_str (qa_cons qe_str qa_nil))) (by with_unfolding_all rfl)) (qss_one (qs_ret (qe_callTy call_strAll ol_str rfl T.z_str (show bootBuiltins "str" = some (.type "str") by decide +kernel) (qa_cons (qe_ix (qe_var 0) qe_int) qa_nil)))) qss_nil)
    (qss_cons (qs_set 2 nd (qe_call tk G_law_level (hr.mono h_law_level) rfl T.m_law_level T.f_law_level.kp T.b_law_level (qa_cons (qe_ix (qe_var 0) qe_int) qa_nil)))
    (qss_cons (qs_set 3 nd (qe_call tk G_law_expression_text (hr.mono h_law_expression_text) rfl T.m_law_expression_text T.f_law_expression_text.kp T.b_law_expression_text (qa_cons (qe_ix (qe_var 0) qe_int) (qa_cons (qe_callB (call_max2 rfl) ol_max rfl T.z_max (show bootBuiltins "max" = some (.builtin "max") by decide +kernel) (qa_cons (qe_var 2) (qa_cons qe_int qa_nil))) qa_nil))))
    (qss_cons (qs_set 4 nd (qe_add (qe_add (qe_add (qe_add (qe_var 3) qe_str) (qe_ix (qe_var 0) qe_int)) qe_str) (qe_call tk G_law_expression_text (hr.mono h_law_expression_text) rfl T.m_law_expression_text T.f_law_expression_text.kp T.b_law_expression_text (qa_cons (qe_ix (qe_var 0) qe_int) (qa_cons (qe_add (qe_var 2) qe_int) qa_nil)))))
    (qss_cons (qs_if (qt_cmp op_lt o2_lt (qe_var 2) (qe_var 1) (nomark _)) (qss_one (qs_ret (qe_add (qe_add qe_str (qe_var 4)) qe_str))) qss_nil)
    (qss_one (qs_ret (qe_var 4))))))))
abbrev N_law_deed : List Str := ["_law_stream_here", "_law_conditional"]
theorem sc_law_deed : FnScope N_law_deed ["_law_stream_here", "_law_conditional"] (defScope s_law_deed) := ⟨rfl, rfl, rfl, by decide +kernel, rfl, by decide +kernel, by decide +kernel⟩
def w_law_deed (A : Ads) (p_law_expression : SpD) (p_law_next : SpD) (p_law_variable : SpD) : DS :=
    (wSeq (wIfS (wTru (wVar 1)) (wRet (wTup (wCons (wC (.str (tx "if"))) (wCons (wCall p_law_expression (wCons (wVar 0) (wCons (wC (.int 2)) wNil))) wNil)))) wNext)
    (wSeq (wIfS (wTst (wOp eqD (wCall p_law_next (wCons (wVar 0) (wCons (wC (.int 3)) wNil))) (wC (.int 0)))) (wRet (wTup (wCons (wC (.str (tx "print"))) (wCons (wCall p_law_expression (wCons (wVar 0) (wCons (wC (.int 2)) wNil))) wNil)))) wNext)
    (wRet (wTup (wCons (wC (.str (tx "set"))) (wCons (wCall p_law_variable (wCons (wVar 0) wNil)) (wCons (wCall p_law_expression (wCons (wVar 0) (wCons (wC (.int 2)) wNil))) wNil)))))))
theorem der_law_deed (T : Txt w K mg A) {k : Nat} {k_law_expression : Nat} {p_law_expression : SpD} (G_law_expression : FnD P w K mg base k_law_expression A.a_law_expression A.d_law_expression ["_law_stream_here", "_law_depth"] p_law_expression) (h_law_expression : k_law_expression ≤ k) {k_law_next : Nat} {p_law_next : SpD} (G_law_next : FnD P w K mg base k_law_next A.a_law_next A.d_law_next ["_law_stream_here", "_law_many"] p_law_next) (h_law_next : k_law_next ≤ k) {k_law_variable : Nat} {p_law_variable : SpD} (G_law_variable : FnD P w K mg base k_law_variable A.a_law_variable A.d_law_variable ["_law_stream_here"] p_law_variable) (h_law_variable : k_law_variable ≤ k) (cdv : Value) (A0 : Around) (outer : List PySem.Env) (s : Shared) (H : Hp) (E : XK) (hr : Room k (A0.deeper (envOfC "_law_deed" (defScope s_law_deed) s.heap.objs.size A.a_law_deed cdv))) :
    QSs (cxOf (L2.CX P w) P w K mg base N_law_deed "_law_deed" (defScope s_law_deed) A.a_law_deed cdv A0 outer s H E) (fun c od _ H => E c od H) (defBody s_law_deed) (w_law_deed A p_law_expression p_law_next p_law_variable) := by
  have nd := sc_law_deed.nd
  have tk : Takes (cxOf (L2.CX P w) P w K mg base N_law_deed "_law_deed" (defScope s_law_deed) A.a_law_deed cdv A0 outer s H E) (fun c od _ H => E c od H) := takes_of rfl rfl rfl rfl
  exact (qss_cons (qs_if (qt_tru (qe_var 1)) (qss_one (qs_ret (qe_tup (qa_cons qe_str (qa_cons (qe_call tk G_law_expression (hr.mono h_law_expression) rfl T.m_law_expression T.f_law_expression.kp T.b_law_expression (qa_cons (qe_var 0) (qa_cons qe_int qa_nil))) qa_nil))))) qss_nil)
    (qss_cons (qs_if (qt_cmp (op_eqD (hu64 hr)) o2_eq (qe_call tk G_law_next (hr.mono h_law_next) rfl T.m_law_next T.f_law_next.kp T.b_law_next (qa_cons (qe_var 0) (qa_cons qe_int qa_nil))) qe_int (nomark _)) (qss_one (qs_ret (qe_tup (qa_cons qe_str (qa_cons (qe_call tk G_law_expression (hr.mono h_law_expression) rfl T.m_law_expression T.f_law_expression.kp T.b_law_expression (qa_cons (qe_var 0) (qa_cons qe_int qa_nil))) qa_nil))))) qss_nil)
    (qss_one (qs_ret (qe_tup (qa_cons qe_str (qa_cons (qe_call tk G_law_variable (hr.mono h_law_variable) rfl T.m_law_variable T.f_law_variable.kp T.b_law_variable (qa_cons (qe_var 0) qa_nil)) (qa_cons (qe_call tk G_law_expression (hr.mono h_law_expression) rfl T.m_law_expression T.f_law_expression.kp T.b_law_expression (qa_cons (qe_var 0) (qa_cons qe_int qa_nil))) qa_nil))))))))
abbrev N_law_deed_text : List Str := ["_law_deed_here"]
theorem sc_law_deed_text : FnScope N_law_deed_text ["_law_deed_here"] (defScope s_law_deed_text) := ⟨rfl, rfl, rfl, by decide +kernel, rfl, by decide +kernel, by decide +kernel⟩
def w_law_deed_text (A : Ads) (p_law_expression_text : SpD) : DS :=
    (wSeq (wIfS (wTst (wOp eqD (wOp ixD (wVar 0) (wC (.int 0))) (wC (.str (tx "set"))))) (wRet (wOp addD (wOp addD (wOp ixD (wVar 0) (wC (.int 1))) (wC (.str (tx " = ")))) (wCall p_law_expression_text (wCons (wOp ixD (wVar 0) (wC (.int 2))) (wCons (wC (.int 0)) wNil))))) wNext)
    (wRet (wOp addD (wOp addD (wOp ixD (wVar 0) (wC (.int 0))) (wC (.str (tx " ")))) (wCall p_law_expression_text (wCons (wOp ixD (wVar 0) (wC (.int 1))) (wCons (wC (.int 0)) wNil))))))
theorem der_law_deed_text (T : Txt w K mg A) {k : Nat} {k_law_expression_text : Nat} {p_law_expression_text : SpD} (G_law_expression_text : FnD P w K mg base k_law_expression_text A.a_law_expression_text A.d_law_expression_text ["_law_expression_here", "_law_level_here"] p_law_expression_text) (h_law_expression_text : k_law_expression_text ≤ k) (cdv : Value) (A0 : Around) (outer : List PySem.Env) (s : Shared) (H : Hp) (E : XK) (hr : Room k (A0.deeper (envOfC "_law_deed_text" (defScope s_law_deed_text) s.heap.objs.size A.a_law_deed_text cdv))) :
    QSs (cxOf (L2.CX P w) P w K mg base N_law_deed_text "_law_deed_text" (defScope s_law_deed_text) A.a_law_deed_text cdv A0 outer s H E) (fun c od _ H => E c od H) (defBody s_law_deed_text) (w_law_deed_text A p_law_expression_text) := by
  have nd := sc_law_deed_text.nd
  have tk : Takes (cxOf (L2.CX P w) P w K mg base N_law_deed_text "_law_deed_text" (defScope s_law_deed_text) A.a_law_deed_text cdv A0 outer s H E) (fun c od _ H => E c od H) := takes_of rfl rfl rfl rfl
  exact (qss_cons (qs_if (qt_cmp (op_eqD (hu64 hr)) o2_eq (qe_ix (qe_var 0) qe_int) qe_str (nomark _)) (qss_one (qs_ret (qe_add (qe_add (qe_ix (qe_var 0) qe_int) qe_str) (qe_call tk G_law_expression_text (hr.mono h_law_expression_text) rfl T.m_law_expression_text T.f_law_expression_text.kp T.b_law_expression_text (qa_cons (qe_ix (qe_var 0) qe_int) (qa_cons qe_int qa_nil)))))) qss_nil)
    (qss_one (qs_ret (qe_add (qe_add (qe_ix (qe_var 0) qe_int) qe_str) (qe_call tk G_law_expression_text (hr.mono h_law_expression_text) rfl T.m_law_expression_text T.f_law_expression_text.kp T.b_law_expression_text (qa_cons (qe_ix (qe_var 0) qe_int) (qa_cons qe_int qa_nil)))))))
abbrev N_law_loose : List Str := ["_law_line", "_law_stream_here", "_law_text", "_law_char"]
theorem sc_law_loose : FnScope N_law_loose ["_law_line", "_law_stream_here"] (defScope s_law_loose) := ⟨rfl, rfl, rfl, by decide +kernel, rfl, by decide +kernel, by decide +kernel⟩
def w_law_loose (A : Ads) (p_law_next : SpD) : DS :=
    (wSeq (wAsg (wC (.str (tx ""))) (gN 2))
    (wSeq (wFor (wItS (wVar 0)) (gN 3) (wIfS (wTst (wOp eqD (wVar 3) (wC (.str (tx " "))))) (wAsg (wOp addD (wVar 2) (wOp mulD (wC (.str (tx " "))) (wOp addD (wC (.int 1)) (wCall p_law_next (wCons (wVar 1) (wCons (wC (.int 3)) wNil)))))) (gN 2)) (wIfS (wTst (wOp (inD false) (wVar 3) (wC (.str (tx "(){}:=+-*<"))))) (wAsg (wOp addD (wOp addD (wOp addD (wVar 2) (wOp mulD (wC (.str (tx " "))) (wCall p_law_next (wCons (wVar 1) (wCons (wC (.int 2)) wNil))))) (wVar 3)) (wOp mulD (wC (.str (tx " "))) (wCall p_law_next (wCons (wVar 1) (wCons (wC (.int 2)) wNil))))) (gN 2)) (wAsg (wOp addD (wVar 2) (wVar 3)) (gN 2)))))
    (wRet (wOp addD (wOp addD (wOp mulD (wC (.str (tx " "))) (wCall p_law_next (wCons (wVar 1) (wCons (wC (.int 3)) wNil)))) (wVar 2)) (wOp mulD (wC (.str (tx " "))) (wCall p_law_next (wCons (wVar 1) (wCons (wC (.int 2)) wNil))))))))
theorem der_law_loose (T : Txt w K mg A) {k : Nat} {k_law_next : Nat} {p_law_next : SpD} (G_law_next : FnD P w K mg base k_law_next A.a_law_next A.d_law_next ["_law_stream_here", "_law_many"] p_law_next) (h_law_next : k_law_next ≤ k) (cdv : Value) (A0 : Around) (outer : List PySem.Env) (s : Shared) (H : Hp) (E : XK) (hr : Room k (A0.deeper (envOfC "_law_loose" (defScope s_law_loose) s.heap.objs.size A.a_law_loose cdv))) :
    QSs (cxOf (L2.CX P w) P w K mg base N_law_loose "_law_loose" (defScope s_law_loose) A.a_law_loose cdv A0 outer s H E) (fun c od _ H => E c od H) (defBody s_law_loose) (w_law_loose A p_law_next) := by
  have nd := sc_law_loose.nd
  have tk : Takes (cxOf (L2.CX P w) P w K mg base N_law_loose "_law_loose" (defScope s_law_loose) A.a_law_loose cdv A0 outer s H E) (fun c od _ H => E c od H) := takes_of rfl rfl rfl rfl
  exact (qss_cons (qs_set 2 nd qe_str)
    (qss_cons (qs_for [3] (passes_of rfl) rfl (qi_str (qe_var 0)) (qg_name 3 nd) (qss_one (qs_if (qt_cmp (op_eqD (hu64 hr)) o2_eq (qe_var 3) qe_str (nomark _)) (qss_one (qs_set 2 nd (qe_add (qe_var 2) (qe_mul qe_str (qe_add qe_int (qe_call tk G_law_next (hr.mono h_law_next) rfl T.m_law_next T.f_law_next.kp T.b_law_next (qa_cons (qe_var 1) (qa_cons qe_int qa_nil)))))))) (qss_one (qs_if (qt_cmp (op_inAll (hu65 hr)) o2_in (qe_var 3) qe_str (by with_unfolding_all rfl)) (qss_one (qs_set 2 nd (qe_add (qe_add (qe_add (qe_var 2) (qe_mul qe_str (qe_call tk G_law_next (hr.mono h_law_next) rfl T.m_law_next T.f_law_next.kp T.b_law_next (qa_cons (qe_var 1) (qa_cons qe_int qa_nil))))) (qe_var 3)) (qe_mul qe_str (qe_call tk G_law_next (hr.mono h_law_next) rfl T.m_law_next T.f_law_next.kp T.b_law_next (qa_cons (qe_var 1) (qa_cons qe_int qa_nil))))))) (qss_one (qs_set 2 nd (qe_add (qe_var 2) (qe_var 3)))))))))
    (qss_one (qs_ret (qe_add (qe_add (qe_mul qe_str (qe_call tk G_law_next (hr.mono h_law_next) rfl T.m_law_next T.f_law_next.kp T.b_law_next (qa_cons (qe_var 1) (qa_cons qe_int qa_nil)))) (qe_var 2)) (qe_mul qe_str (qe_call tk G_law_next (hr.mono h_law_next) rfl T.m_law_next T.f_law_next.kp T.b_law_next (qa_cons (qe_var 1) (qa_cons qe_int qa_nil)))))))))
abbrev N_law_spread : List Str := ["_law_lines", "_law_stream_here", "_law_rows", "_law_line", "_law_k"]
theorem sc_law_spread : FnScope N_law_spread ["_law_lines", "_law_stream_here"] (defScope s_law_spread) := ⟨rfl, rfl, rfl, by decide +kernel, rfl, by decide +kernel, by decide +kernel⟩
def w_law_spread (A : Ads) (p_law_next : SpD) (p_law_loose : SpD) : DS :=
    (wSeq (wAsg (wLst wNil) (gN 2))
    (wSeq (wFor (wIt (wVar 0)) (gN 3) (wSeq (wFor (wRng1 (wCons (wOp divD (wCall p_law_next (wCons (wVar 1) (wCons (wC (.int 5)) wNil))) (wC (.int 4))) wNil)) (gN 4) (wEx (wBM "list" appendD (wVar 2) (wCons (wOp mulD (wC (.str (tx " "))) (wCall p_law_next (wCons (wVar 1) (wCons (wC (.int 3)) wNil)))) wNil))))
    (wEx (wBM "list" appendD (wVar 2) (wCons (wCall p_law_loose (wCons (wVar 3) (wCons (wVar 1) wNil))) wNil)))))
    (wRet (wBM "str" joinD (wC (.str (tx "\n"))) (wCons (wVar 2) wNil)))))
theorem der_law_spread (T : Txt w K mg A) {k : Nat} {k_law_next : Nat} {p_law_next : SpD} (G_law_next : FnD P w K mg base k_law_next A.a_law_next A.d_law_next ["_law_stream_here", "_law_many"] p_law_next) (h_law_next : k_law_next ≤ k) {k_law_loose : Nat} {p_law_loose : SpD} (G_law_loose : FnD P w K mg base k_law_loose A.a_law_loose A.d_law_loose ["_law_line", "_law_stream_here"] p_law_loose) (h_law_loose : k_law_loose ≤ k) (cdv : Value) (A0 : Around) (outer : List PySem.Env) (s : Shared) (H : Hp) (E : XK) (hr : Room k (A0.deeper (envOfC "_law_spread" (defScope s_law_spread) s.heap.objs.size A.a_law_spread cdv))) :
    QSs (cxOf (L2.CX P w) P w K mg base N_law_spread "_law_spread" (defScope s_law_spread) A.a_law_spread cdv A0 outer s H E) (fun c od _ H => E c od H) (defBody s_law_spread) (w_law_spread A p_law_next p_law_loose) := by
  have nd := sc_law_spread.nd
  have tk : Takes (cxOf (L2.CX P w) P w K mg base N_law_spread "_law_spread" (defScope s_law_spread) A.a_law_spread cdv A0 outer s H E) (fun c od _ H => E c od H) := takes_of rfl rfl rfl rfl
  exact (qss_cons (qs_set 2 nd (qe_lst qa_nil))
    (qss_cons (qs_for [3] (passes_of rfl) rfl (qi_list (qe_var 0)) (qg_name 3 nd) (qss_cons (qs_for [4] (passes_of rfl) rfl (qi_rng1 rfl T.z_range (qe_div (qe_call tk G_law_next (hr.mono h_law_next) rfl T.m_law_next T.f_law_next.kp T.b_law_next (qa_cons (qe_var 1) (qa_cons qe_int qa_nil))) qe_int)) (qg_name 4 nd) (qss_one (qs_expr (qe_append (qe_var 2) (qe_mul qe_str (qe_call tk G_law_next (hr.mono h_law_next) rfl T.m_law_next T.f_law_next.kp T.b_law_next (qa_cons (qe_var 1) (qa_cons qe_int qa_nil))))))))
    (qss_one (qs_expr (qe_append (qe_var 2) (qe_call tk G_law_loose (hr.mono h_law_loose) rfl T.m_law_loose T.f_law_loose.kp T.b_law_loose (qa_cons (qe_var 3) (qa_cons (qe_var 1) qa_nil))))))))
    (qss_one (qs_ret (qe_join qe_str (qe_var 2))))))
abbrev N_law_is_integer : List Str := ["_law_actual"]
theorem sc_law_is_integer : FnScope N_law_is_integer ["_law_actual"] (defScope s_law_is_integer) := ⟨rfl, rfl, rfl, by decide +kernel, rfl, by decide +kernel, by decide +kernel⟩
def w_law_is_integer (A : Ads) : DS :=
    (wRet (wAndV (wApp isiD (wCons (wVar 0) (wCons (wC (.ty "int")) wNil))) (wNotV (wApp isiD (wCons (wVar 0) (wCons (wC (.ty "bool")) wNil))))))
theorem der_law_is_integer (T : Txt w K mg A) {k : Nat} (cdv : Value) (A0 : Around) (outer : List PySem.Env) (s : Shared) (H : Hp) (E : XK) (hr : Room k (A0.deeper (envOfC "_law_is_integer" (defScope s_law_is_integer) s.heap.objs.size A.a_law_is_integer cdv))) :
    QSs (cxOf (L2.CX P w) P w K mg base N_law_is_integer "_law_is_integer" (defScope s_law_is_integer) A.a_law_is_integer cdv A0 outer s H E) (fun c od _ H => E c od H) (defBody s_law_is_integer) (w_law_is_integer A) := by
  have nd := sc_law_is_integer.nd
  have tk : Takes (cxOf (L2.CX P w) P w K mg base N_law_is_integer "_law_is_integer" (defScope s_law_is_integer) A.a_law_is_integer cdv A0 outer s H E) (fun c od _ H => E c od H) := takes_of rfl rfl rfl rfl
  exact (qss_one (qs_ret (qe_and (qe_callB call_isi ol_isi rfl T.z_isinstance (show bootBuiltins "isinstance" = some (.builtin "isinstance") by decide +kernel) (qa_cons (qe_var 0) (qa_cons (qe_bty (n := "int") rfl T.z_int) qa_nil))) (qe_one (qe_not (qe_callB call_isi ol_isi rfl T.z_isinstance (show bootBuiltins "isinstance" = some (.builtin "isinstance") by decide +kernel) (qa_cons (qe_var 0) (qa_cons (qe_bty (n := "bool") rfl T.z_bool) qa_nil))))))))
abbrev N_law_same : List Str := ["_law_actual", "_law_expected", "_law_k"]
theorem sc_law_same : FnScope N_law_same ["_law_actual", "_law_expected"] (defScope s_law_same) := ⟨rfl, rfl, rfl, by decide +kernel, rfl, by decide +kernel, by decide +kernel⟩
def w_law_same (A : Ads) (p_law_is_integer : SpD) (p_law_same : SpD) : DS :=
    (wSeq (wIfS (wTst (wOp (isND false) (wVar 1) (wC .non))) (wRet (wOp (isND false) (wVar 0) (wC .non))) wNext)
    (wSeq (wIfS (wTru (wApp isiD (wCons (wVar 1) (wCons (wC (.ty "bool")) wNil)))) (wRet (wAndV (wApp isiD (wCons (wVar 0) (wCons (wC (.ty "bool")) wNil))) (wOp eqD (wVar 0) (wVar 1)))) wNext)
    (wSeq (wIfS (wTru (wApp isiD (wCons (wVar 1) (wCons (wC (.ty "int")) wNil)))) (wRet (wAndV (wCall p_law_is_integer (wCons (wVar 0) wNil)) (wOp eqD (wVar 0) (wVar 1)))) wNext)
    (wSeq (wIfS (wTru (wApp isiD (wCons (wVar 1) (wCons (wC (.ty "str")) wNil)))) (wRet (wAndV (wApp isiD (wCons (wVar 0) (wCons (wC (.ty "str")) wNil))) (wOp eqD (wVar 0) (wVar 1)))) wNext)
    (wSeq (wIfS (wAnd (wTru (wApp isiD (wCons (wVar 1) (wCons (wC (.ty "tuple")) wNil)))) (wNot (wTru (wApp isiD (wCons (wVar 0) (wCons (wC (.ty "tuple")) wNil)))))) (wRet (wC (.bl false))) wNext)
    (wSeq (wIfS (wAnd (wTru (wApp isiD (wCons (wVar 1) (wCons (wC (.ty "list")) wNil)))) (wNot (wTru (wApp isiD (wCons (wVar 0) (wCons (wC (.ty "list")) wNil)))))) (wRet (wC (.bl false))) wNext)
    (wSeq (wIfS (wTst (wOp neD (wApp lenD (wCons (wVar 0) wNil)) (wApp lenD (wCons (wVar 1) wNil)))) (wRet (wC (.bl false))) wNext)
    (wSeq (wFor (wRng1 (wCons (wApp lenD (wCons (wVar 1) wNil)) wNil)) (gN 2) (wIfS (wNot (wTru (wCall p_law_same (wCons (wOp ixD (wVar 0) (wVar 2)) (wCons (wOp ixD (wVar 1) (wVar 2)) wNil))))) (wRet (wC (.bl false))) wNext))
    (wRet (wC (.bl true)))))))))))
theorem der_law_same (T : Txt w K mg A) {k : Nat} {k_law_is_integer : Nat} {p_law_is_integer : SpD} (G_law_is_integer : FnD P w K mg base k_law_is_integer A.a_law_is_integer A.d_law_is_integer ["_law_actual"] p_law_is_integer) (h_law_is_integer : k_law_is_integer ≤ k) {k_law_same : Nat} {p_law_same : SpD} (G_law_same : FnD P w K mg base k_law_same A.a_law_same A.d_law_same ["_law_actual", "_law_expected"] p_law_same) (h_law_same : k_law_same ≤ k) (cdv : Value) (A0 : Around) (outer : List PySem.Env) (s : Shared) (H : Hp) (E : XK) (hr : Room k (A0.deeper (envOfC "_law_same" (defScope s_law_same) s.heap.objs.size A.a_law_same cdv))) :
    QSs (cxOf (L2.CX P w) P w K mg base N_law_same "_law_same" (defScope s_law_same) A.a_law_same cdv A0 outer s H E) (fun c od _ H => E c od H) (defBody s_law_same) (w_law_same A p_law_is_integer p_law_same) := by
  have nd := sc_law_same.nd
  have tk : Takes (cxOf (L2.CX P w) P w K mg base N_law_same "_law_same" (defScope s_law_same) A.a_law_same cdv A0 outer s H E) (fun c od _ H => E c od H) := takes_of rfl rfl rfl rfl
  exact (qss_cons (qs_if (qt_cmp op_isN' o2_isN (qe_var 1) qe_non (nomark _)) (qss_one (qs_ret (qe_cmp op_isN' o2_isN (qe_var 0) qe_non (nomark _)))) qss_nil)
    (qss_cons (qs_if (qt_tru (qe_callB call_isi ol_isi rfl T.z_isinstance (show bootBuiltins "isinstance" = some (.builtin "isinstance") by decide +kernel) (qa_cons (qe_var 1) (qa_cons (qe_bty (n := "bool") rfl T.z_bool) qa_nil)))) (qss_one (qs_ret (qe_and (qe_callB call_isi ol_isi rfl T.z_isinstance (show bootBuiltins "isinstance" = some (.builtin "isinstance") by decide +kernel) (qa_cons (qe_var 0) (qa_cons (qe_bty (n := "bool") rfl T.z_bool) qa_nil))) (qe_one (qe_cmp (op_eqD (hu64 hr)) o2_eq (qe_var 0) (qe_var 1) (nomark _)))))) qss_nil)
    (qss_cons (qs_if (qt_tru (qe_callB call_isi ol_isi rfl T.z_isinstance (show bootBuiltins "isinstance" = some (.builtin "isinstance") by decide +kernel) (qa_cons (qe_var 1) (qa_cons (qe_bty (n := "int") rfl T.z_int) qa_nil)))) (qss_one (qs_ret (qe_and (qe_call tk G_law_is_integer (hr.mono h_law_is_integer) rfl T.m_law_is_integer T.f_law_is_integer.kp T.b_law_is_integer (qa_cons (qe_var 0) qa_nil)) (qe_one (qe_cmp (op_eqD (hu64 hr)) o2_eq (qe_var 0) (qe_var 1) (nomark _)))))) qss_nil)
    (qss_cons (qs_if (qt_tru (qe_callB call_isi ol_isi rfl T.z_isinstance (show bootBuiltins "isinstance" = some (.builtin "isinstance") by decide +kernel) (qa_cons (qe_var 1) (qa_cons (qe_bty (n := "str") rfl T.z_str) qa_nil)))) (qss_one (qs_ret (qe_and (qe_callB call_isi ol_isi rfl T.z_isinstance (show bootBuiltins "isinstance" = some (.builtin "isinstance") by decide +kernel) (qa_cons (qe_var 0) (qa_cons (qe_bty (n := "str") rfl T.z_str) qa_nil))) (qe_one (qe_cmp (op_eqD (hu64 hr)) o2_eq (qe_var 0) (qe_var 1) (nomark _)))))) qss_nil)
    (qss_cons (qs_if (qt_bool (qw_and (qt_tru (qe_callB call_isi ol_isi rfl T.z_isinstance (show bootBuiltins "isinstance" = some (.builtin "isinstance") by decide +kernel) (qa_cons (qe_var 1) (qa_cons (qe_bty (n := "tuple") rfl T.z_tuple) qa_nil)))) (qw_and1 (qt_not (qt_tru (qe_callB call_isi ol_isi rfl T.z_isinstance (show bootBuiltins "isinstance" = some (.builtin "isinstance") by decide +kernel) (qa_cons (qe_var 0) (qa_cons (qe_bty (n := "tuple") rfl T.z_tuple) qa_nil)))))))) (qss_one (qs_ret qe_bl)) qss_nil)
    (qss_cons (qs_if (qt_bool (qw_and (qt_tru (qe_callB call_isi ol_isi rfl T.z_isinstance (show bootBuiltins "isinstance" = some (.builtin "isinstance") by decide +kernel) (qa_cons (qe_var 1) (qa_cons (qe_bty (n := "list") rfl T.z_list) qa_nil)))) (qw_and1 (qt_not (qt_tru (qe_callB call_isi ol_isi rfl T.z_isinstance (show bootBuiltins "isinstance" = some (.builtin "isinstance") by decide +kernel) (qa_cons (qe_var 0) (qa_cons (qe_bty (n := "list") rfl T.z_list) qa_nil)))))))) (qss_one (qs_ret qe_bl)) qss_nil)
    (qss_cons (qs_if (qt_cmp (op_neD (hu64 hr)) o2_ne (qe_len rfl T.z_len (qe_var 0)) (qe_len rfl T.z_len (qe_var 1)) (nomark _)) (qss_one (qs_ret qe_bl)) qss_nil)
    (qss_cons (qs_for [2] (passes_of rfl) rfl (qi_rng1 rfl T.z_range (qe_len rfl T.z_len (qe_var 1))) (qg_name 2 nd) (qss_one (qs_if (qt_not (qt_tru (qe_call tk G_law_same (hr.mono h_law_same) rfl T.m_law_same T.f_law_same.kp T.b_law_same (qa_cons (qe_ix (qe_var 0) (qe_var 2)) (qa_cons (qe_ix (qe_var 1) (qe_var 2)) qa_nil))))) (qss_one (qs_ret qe_bl)) qss_nil)))
    (qss_one (qs_ret qe_bl))))))))))
abbrev N_law_body : List Str := ["_law_stream_here", "_law_state", "_law_around", "_law_depth", "_law_body_here", "_law_k", "_law_kind", "_law_loops", "_law_scope", "_law_label", "_law_first", "_law_second", "_law_word", "_law_name"]
theorem sc_law_body : FnScope N_law_body ["_law_stream_here", "_law_state", "_law_around", "_law_depth"] (defScope s_law_body) := ⟨rfl, rfl, rfl, by decide +kernel, rfl, by decide +kernel, by decide +kernel⟩
def w_law_body (A : Ads) (p_law_next : SpD) (p_law_deed : SpD) (p_law_body : SpD) (p_law_expression : SpD) : DS :=
    (wSeq (wAsg (wLst wNil) (gN 4))
    (wSeq (wFor (wRng1 (wCons (wOp addD (wC (.int 1)) (wCall p_law_next (wCons (wVar 0) (wCons (wC (.int 3)) wNil)))) wNil)) (gN 5) (wSeq (wAsg (wCall p_law_next (wCons (wVar 0) (wCons (wC (.int 10)) wNil))) (gN 6))
    (wSeq (wIfS (wTst (wOp geD (wApp lenD (wCons (wVar 1) wNil)) (wC (.int 12)))) (wRet (wApp tupleOf (wCons (wVar 4) wNil))) wNext)
    (wSeq (wIfS (wTst (wOp geD (wVar 3) (wC (.int 4)))) (wAsg (wOp modD (wVar 6) (wC (.int 3))) (gN 6)) wNext)
    (wSeq (wAsg (wLc [8] (wIt (wVar 2)) (gN 8) (wTst (wOp eqD (wOp ixD (wVar 8) (wC (.int 0))) (wC (.str (tx "loop"))))) (wOp ixD (wVar 8) (wC (.int 1)))) (gN 7))
    (wIfS (wTst (wOp leD (wVar 6) (wC (.int 2)))) (wSeq (wAsg (wOp addD (wC (.str (tx "n"))) (wOp ixD (wC (.str (tx "abcdefghijklmnop"))) (wOp modD (wApp lenD (wCons (wVar 1) wNil)) (wC (.int 16))))) (gN 9))
    (wSeq (wEx (wBM "list" appendD (wVar 1) (wCons (wVar 9) wNil)))
    (wEx (wBM "list" appendD (wVar 4) (wCons (wTup (wCons (wC (.str (tx "node"))) (wCons (wVar 9) (wCons (wCall p_law_deed (wCons (wVar 0) (wCons (wC (.bl false)) wNil))) wNil)))) wNil))))) (wIfS (wTst (wOp leD (wVar 6) (wC (.int 4)))) (wSeq (wAsg (wOp addD (wC (.str (tx "n"))) (wOp ixD (wC (.str (tx "abcdefghijklmnop"))) (wOp modD (wApp lenD (wCons (wVar 1) wNil)) (wC (.int 16))))) (gN 9))
    (wSeq (wEx (wBM "list" appendD (wVar 1) (wCons (wVar 9) wNil)))
    (wSeq (wAsg (wCall p_law_body (wCons (wVar 0) (wCons (wVar 1) (wCons (wVar 2) (wCons (wOp addD (wVar 3) (wC (.int 1))) wNil))))) (gN 10))
    (wSeq (wAsg (wTup wNil) (gN 11))
    (wSeq (wIfS (wTst (wOp eqD (wCall p_law_next (wCons (wVar 0) (wCons (wC (.int 2)) wNil))) (wC (.int 1)))) (wAsg (wCall p_law_body (wCons (wVar 0) (wCons (wVar 1) (wCons (wVar 2) (wCons (wOp addD (wVar 3) (wC (.int 1))) wNil))))) (gN 11)) wNext)
    (wEx (wBM "list" appendD (wVar 4) (wCons (wTup (wCons (wC (.str (tx "if"))) (wCons (wVar 9) (wCons (wCall p_law_expression (wCons (wVar 0) (wCons (wC (.int 2)) wNil))) (wCons (wVar 10) (wCons (wVar 11) wNil)))))) wNil)))))))) (wIfS (wTst (wOp leD (wVar 6) (wC (.int 6)))) (wSeq (wAsg (wOp ixD (wLst (wCons (wC (.str (tx "block"))) (wCons (wC (.str (tx "loop"))) wNil))) (wCall p_law_next (wCons (wVar 0) (wCons (wC (.int 2)) wNil)))) (gN 12))
    (wSeq (wAsg (wOp addD (wC (.str (tx "s"))) (wOp ixD (wC (.str (tx "abcdefghijklmnop"))) (wApp lenD (wCons (wVar 2) wNil)))) (gN 13))
    (wEx (wBM "list" appendD (wVar 4) (wCons (wTup (wCons (wVar 12) (wCons (wVar 13) (wCons (wCall p_law_body (wCons (wVar 0) (wCons (wVar 1) (wCons (wOp addD (wVar 2) (wLst (wCons (wTup (wCons (wVar 12) (wCons (wVar 13) wNil))) wNil))) (wCons (wOp addD (wVar 3) (wC (.int 1))) wNil))))) wNil)))) wNil))))) (wIfS (wAnd (wTst (wOp eqD (wVar 6) (wC (.int 7)))) (wTru (wVar 2))) (wSeq (wEx (wBM "list" appendD (wVar 4) (wCons (wTup (wCons (wC (.str (tx "break"))) (wCons (wOp ixD (wOp ixD (wVar 2) (wCall p_law_next (wCons (wVar 0) (wCons (wApp lenD (wCons (wVar 2) wNil)) wNil)))) (wC (.int 1))) wNil))) wNil)))
    (wRet (wApp tupleOf (wCons (wVar 4) wNil)))) (wIfS (wAnd (wTst (wOp eqD (wVar 6) (wC (.int 8)))) (wTru (wVar 7))) (wSeq (wEx (wBM "list" appendD (wVar 4) (wCons (wTup (wCons (wC (.str (tx "continue"))) (wCons (wOp ixD (wVar 7) (wCall p_law_next (wCons (wVar 0) (wCons (wApp lenD (wCons (wVar 7) wNil)) wNil)))) wNil))) wNil)))
    (wRet (wApp tupleOf (wCons (wVar 4) wNil)))) (wIfS (wAnd (wTst (wOp eqD (wVar 6) (wC (.int 9)))) (wTst (wOp gtD (wVar 3) (wC (.int 0))))) (wSeq (wEx (wBM "list" appendD (wVar 4) (wCons (wTup (wCons (wC (.str (tx "exit"))) wNil)) wNil)))
    (wRet (wApp tupleOf (wCons (wVar 4) wNil)))) wNext)))))))))))
    (wRet (wApp tupleOf (wCons (wVar 4) wNil)))))
theorem der_law_body (T : Txt w K mg A) {k : Nat} {k_law_next : Nat} {p_law_next : SpD} (G_law_next : FnD P w K mg base k_law_next A.a_law_next A.d_law_next ["_law_stream_here", "_law_many"] p_law_next) (h_law_next : k_law_next ≤ k) {k_law_deed : Nat} {p_law_deed : SpD} (G_law_deed : FnD P w K mg base k_law_deed A.a_law_deed A.d_law_deed ["_law_stream_here", "_law_conditional"] p_law_deed) (h_law_deed : k_law_deed ≤ k) {k_law_body : Nat} {p_law_body : SpD} (G_law_body : FnD P w K mg base k_law_body A.a_law_body A.d_law_body ["_law_stream_here", "_law_state", "_law_around", "_law_depth"] p_law_body) (h_law_body : k_law_body ≤ k) {k_law_expression : Nat} {p_law_expression : SpD} (G_law_expression : FnD P w K mg base k_law_expression A.a_law_expression A.d_law_expression ["_law_stream_here", "_law_depth"] p_law_expression) (h_law_expression : k_law_expression ≤ k) (cdv : Value) (A0 : Around) (outer : List PySem.Env) (s : Shared) (H : Hp) (E : XK) (hr : Room k (A0.deeper (envOfC "_law_body" (defScope s_law_body) s.heap.objs.size A.a_law_body cdv))) :
    QSs (cxOf (L2.CX P w) P w K mg base N_law_body "_law_body" (defScope s_law_body) A.a_law_body cdv A0 outer s H E) (fun c od _ H => E c od H) (defBody s_law_body) (w_law_body A p_law_next p_law_deed p_law_body p_law_expression) := by
  have nd := sc_law_body.nd
  have tk : Takes (cxOf (L2.CX P w) P w K mg base N_law_body "_law_body" (defScope s_law_body) A.a_law_body cdv A0 outer s H E) (fun c od _ H => E c od H) := takes_of rfl rfl rfl rfl
  exact (qss_cons (qs_set 4 nd (qe_lst qa_nil))
    (qss_cons (qs_for [5] (passes_of rfl) rfl (qi_rng1 rfl T.z_range (qe_add qe_int (qe_call tk G_law_next (hr.mono h_law_next) rfl T.m_law_next T.f_law_next.kp T.b_law_next (qa_cons (qe_var 0) (qa_cons qe_int qa_nil))))) (qg_name 5 nd) (qss_cons (qs_set 6 nd (qe_call tk G_law_next (hr.mono h_law_next) rfl T.m_law_next T.f_law_next.kp T.b_law_next (qa_cons (qe_var 0) (qa_cons qe_int qa_nil))))
    (qss_cons (qs_if (qt_cmp op_ge o2_ge (qe_len rfl T.z_len (qe_var 1)) qe_int (nomark _)) (qss_one (qs_ret (qe_callTy call_tupleOf ol_tuple rfl T.z_tuple (show bootBuiltins "tuple" = some (.type "tuple") by decide +kernel) (qa_cons (qe_var 4) qa_nil)))) qss_nil)
    (qss_cons (qs_if (qt_cmp op_ge o2_ge (qe_var 3) qe_int (nomark _)) (qss_one (qs_set 6 nd (qe_mod (qe_var 6) qe_int))) qss_nil)
    (qss_cons (qs_setLc 7 (own := [("_law_scope", 8)]) rfl nd (sw_true rfl rfl rfl (by decide +kernel)) (qi_list (qe_var 2)) (blkOk_by (N := N_law_body) (sc := defScope s_law_body) (by decide +kernel)) (fun _ _ _ _ _ => (qg_name 8 nd)) (fun _ _ _ _ _ => (qts_one (qt_cmp (op_eqD (hu64 hr)) o2_eq (qe_ix (qe_var 8) qe_int) qe_str (nomark _)))) (fun _ _ _ _ _ => (qe_ix (qe_var 8) qe_int)))
    (qss_one (qs_if (qt_cmp op_le o2_le (qe_var 6) qe_int (nomark _)) (qss_cons (qs_set 9 nd (qe_add qe_str (qe_ix qe_str (qe_mod (qe_len rfl T.z_len (qe_var 1)) qe_int))))
    (qss_cons (qs_expr (qe_append (qe_var 1) (qe_var 9)))
    (qss_one (qs_expr (qe_append (qe_var 4) (qe_tup (qa_cons qe_str (qa_cons (qe_var 9) (qa_cons (qe_call tk G_law_deed (hr.mono h_law_deed) rfl T.m_law_deed T.f_law_deed.kp T.b_law_deed (qa_cons (qe_var 0) (qa_cons qe_bl qa_nil))) qa_nil))))))))) (qss_one (qs_if (qt_cmp op_le o2_le (qe_var 6) qe_int (nomark _)) (qss_cons (qs_set 9 nd (qe_add qe_str (qe_ix qe_str (qe_mod (qe_len rfl T.z_len (qe_var 1)) qe_int))))
    (qss_cons (qs_expr (qe_append (qe_var 1) (qe_var 9)))
    (qss_cons (qs_set 10 nd (qe_call tk G_law_body (hr.mono h_law_body) rfl T.m_law_body T.f_law_body.kp T.b_law_body (qa_cons (qe_var 0) (qa_cons (qe_var 1) (qa_cons (qe_var 2) (qa_cons (qe_add (qe_var 3) qe_int) qa_nil))))))
    (qss_cons (qs_set 11 nd (qe_tup qa_nil))
    (qss_cons (qs_if (qt_cmp (op_eqD (hu64 hr)) o2_eq (qe_call tk G_law_next (hr.mono h_law_next) rfl T.m_law_next T.f_law_next.kp T.b_law_next (qa_cons (qe_var 0) (qa_cons qe_int qa_nil))) qe_int (nomark _)) (qss_one (qs_set 11 nd (qe_call tk G_law_body (hr.mono h_law_body) rfl T.m_law_body T.f_law_body.kp T.b_law_body (qa_cons (qe_var 0) (qa_cons (qe_var 1) (qa_cons (qe_var 2) (qa_cons (qe_add (qe_var 3) qe_int) qa_nil))))))) qss_nil)
    (qss_one (qs_expr (qe_append (qe_var 4) (qe_tup (qa_cons qe_str (qa_cons (qe_var 9) (qa_cons (qe_call tk G_law_expression (hr.mono h_law_expression) rfl T.m_law_expression T.f_law_expression.kp T.b_law_expression (qa_cons (qe_var 0) (qa_cons qe_int qa_nil))) (qa_cons (qe_var 10) (qa_cons (qe_var 11) qa_nil)))))))))))))) (qss_one (qs_if (qt_cmp op_le o2_le (qe_var 6) qe_int (nomark _)) (qss_cons (qs_set 12 nd (qe_ix (qe_lst (qa_cons qe_str (qa_cons qe_str qa_nil))) (qe_call tk G_law_next (hr.mono h_law_next) rfl T.m_law_next T.f_law_next.kp T.b_law_next (qa_cons (qe_var 0) (qa_cons qe_int qa_nil)))))
    (qss_cons (qs_set 13 nd (qe_add qe_str (qe_ix qe_str (qe_len rfl T.z_len (qe_var 2)))))
    (qss_one (qs_expr (qe_append (qe_var 4) (qe_tup (qa_cons (qe_var 12) (qa_cons (qe_var 13) (qa_cons (qe_call tk G_law_body (hr.mono h_law_body) rfl T.m_law_body T.f_law_body.kp T.b_law_body (qa_cons (qe_var 0) (qa_cons (qe_var 1) (qa_cons (qe_add (qe_var 2) (qe_lst (qa_cons (qe_tup (qa_cons (qe_var 12) (qa_cons (qe_var 13) qa_nil))) qa_nil))) (qa_cons (qe_add (qe_var 3) qe_int) qa_nil))))) qa_nil))))))))) (qss_one (qs_if (qt_bool (qw_and (qt_cmp (op_eqD (hu64 hr)) o2_eq (qe_var 6) qe_int (nomark _)) (qw_and1 (qt_tru (qe_var 2))))) (qss_cons (qs_expr (qe_append (qe_var 4) (qe_tup (qa_cons qe_str (qa_cons (qe_ix (qe_ix (qe_var 2) (qe_call tk G_law_next (hr.mono h_law_next) rfl T.m_law_next T.f_law_next.kp T.b_law_next (qa_cons (qe_var 0) (qa_cons (qe_len rfl T.z_len (qe_var 2)) qa_nil)))) qe_int) qa_nil)))))
    (qss_one (qs_ret (qe_callTy call_tupleOf ol_tuple rfl T.z_tuple (show bootBuiltins "tuple" = some (.type "tuple") by decide +kernel) (qa_cons (qe_var 4) qa_nil))))) (qss_one (qs_if (qt_bool (qw_and (qt_cmp (op_eqD (hu64 hr)) o2_eq (qe_var 6) qe_int (nomark _)) (qw_and1 (qt_tru (qe_var 7))))) (qss_cons (qs_expr (qe_append (qe_var 4) (qe_tup (qa_cons qe_str (qa_cons (qe_ix (qe_var 7) (qe_call tk G_law_next (hr.mono h_law_next) rfl T.m_law_next T.f_law_next.kp T.b_law_next (qa_cons (qe_var 0) (qa_cons (qe_len rfl T.z_len (qe_var 7)) qa_nil)))) qa_nil)))))
    (qss_one (qs_ret (qe_callTy call_tupleOf ol_tuple rfl T.z_tuple (show bootBuiltins "tuple" = some (.type "tuple") by decide +kernel) (qa_cons (qe_var 4) qa_nil))))) (qss_one (qs_if (qt_bool (qw_and (qt_cmp (op_eqD (hu64 hr)) o2_eq (qe_var 6) qe_int (nomark _)) (qw_and1 (qt_cmp op_gt o2_gt (qe_var 3) qe_int (nomark _))))) (qss_cons (qs_expr (qe_append (qe_var 4) (qe_tup (qa_cons qe_str qa_nil))))
    (qss_one (qs_ret (qe_callTy call_tupleOf ol_tuple rfl T.z_tuple (show bootBuiltins "tuple" = some (.type "tuple") by decide +kernel) (qa_cons (qe_var 4) qa_nil))))) qss_nil)))))))))))))))))
    (qss_one (qs_ret (qe_callTy call_tupleOf ol_tuple rfl T.z_tuple (show bootBuiltins "tuple" = some (.type "tuple") by decide +kernel) (qa_cons (qe_var 4) qa_nil))))))
abbrev N_law_body_lines : List Str := ["_law_body_here", "_law_depth", "_law_lines", "_law_space", "_law_statement", "_law_kind"]
theorem sc_law_body_lines : FnScope N_law_body_lines ["_law_body_here", "_law_depth"] (defScope s_law_body_lines) := ⟨rfl, rfl, rfl, by decide +kernel, rfl, by decide +kernel, by decide +kernel⟩
def w_law_body_lines (A : Ads) (p_law_deed_text : SpD) (p_law_expression_text : SpD) (p_law_body_lines : SpD) : DS :=
    (wSeq (wAsg (wLst wNil) (gN 2))
    (wSeq (wAsg (wOp mulD (wC (.str (tx "  "))) (wVar 1)) (gN 3))
    (wSeq (wFor (wItT (wVar 0)) (gN 4) (wSeq (wAsg (wOp ixD (wVar 4) (wC (.int 0))) (gN 5))
    (wIfS (wTst (wOp eqD (wVar 5) (wC (.str (tx "node"))))) (wEx (wBM "list" appendD (wVar 2) (wCons (wOp addD (wOp addD (wOp addD (wVar 3) (wOp ixD (wVar 4) (wC (.int 1)))) (wC (.str (tx ": ")))) (wCall p_law_deed_text (wCons (wOp ixD (wVar 4) (wC (.int 2))) wNil))) wNil))) (wIfS (wTst (wOp eqD (wVar 5) (wC (.str (tx "if"))))) (wSeq (wEx (wBM "list" appendD (wVar 2) (wCons (wOp addD (wOp addD (wOp addD (wOp addD (wVar 3) (wOp ixD (wVar 4) (wC (.int 1)))) (wC (.str (tx ": if ")))) (wCall p_law_expression_text (wCons (wOp ixD (wVar 4) (wC (.int 2))) (wCons (wC (.int 0)) wNil)))) (wC (.str (tx " {")))) wNil)))
    (wSeq (wEx (wBM "list" extendD (wVar 2) (wCons (wCall p_law_body_lines (wCons (wOp ixD (wVar 4) (wC (.int 3))) (wCons (wOp addD (wVar 1) (wC (.int 1))) wNil))) wNil)))
    (wSeq (wIfS (wTru (wOp ixD (wVar 4) (wC (.int 4)))) (wSeq (wEx (wBM "list" appendD (wVar 2) (wCons (wOp addD (wVar 3) (wC (.str (tx "} else {")))) wNil)))
    (wEx (wBM "list" extendD (wVar 2) (wCons (wCall p_law_body_lines (wCons (wOp ixD (wVar 4) (wC (.int 4))) (wCons (wOp addD (wVar 1) (wC (.int 1))) wNil))) wNil)))) wNext)
    (wEx (wBM "list" appendD (wVar 2) (wCons (wOp addD (wVar 3) (wC (.str (tx "}")))) wNil)))))) (wIfS (wTst (wOp (inD false) (wVar 5) (wLst (wCons (wC (.str (tx "block"))) (wCons (wC (.str (tx "loop"))) wNil))))) (wSeq (wEx (wBM "list" appendD (wVar 2) (wCons (wOp addD (wOp addD (wOp addD (wOp addD (wVar 3) (wVar 5)) (wC (.str (tx " ")))) (wOp ixD (wVar 4) (wC (.int 1)))) (wC (.str (tx " {")))) wNil)))
    (wSeq (wEx (wBM "list" extendD (wVar 2) (wCons (wCall p_law_body_lines (wCons (wOp ixD (wVar 4) (wC (.int 2))) (wCons (wOp addD (wVar 1) (wC (.int 1))) wNil))) wNil)))
    (wEx (wBM "list" appendD (wVar 2) (wCons (wOp addD (wVar 3) (wC (.str (tx "}")))) wNil))))) (wIfS (wTst (wOp eqD (wVar 5) (wC (.str (tx "exit"))))) (wEx (wBM "list" appendD (wVar 2) (wCons (wOp addD (wVar 3) (wC (.str (tx "exit")))) wNil))) (wEx (wBM "list" appendD (wVar 2) (wCons (wOp addD (wOp addD (wOp addD (wVar 3) (wVar 5)) (wC (.str (tx " ")))) (wOp ixD (wVar 4) (wC (.int 1)))) wNil)))))))))
    (wRet (wVar 2)))))
theorem der_law_body_lines (T : Txt w K mg A) {k : Nat} {k_law_deed_text : Nat} {p_law_deed_text : SpD} (G_law_deed_text : FnD P w K mg base k_law_deed_text A.a_law_deed_text A.d_law_deed_text ["_law_deed_here"] p_law_deed_text) (h_law_deed_text : k_law_deed_text ≤ k) {k_law_expression_text : Nat} {p_law_expression_text : SpD} (G_law_expression_text : FnD P w K mg base k_law_expression_text A.a_law_expression_text A.d_law_expression_text ["_law_expression_here", "_law_level_here"] p_law_expression_text) (h_law_expression_text : k_law_expression_text ≤ k) {k_law_body_lines : Nat} {p_law_body_lines : SpD} (G_law_body_lines : FnD P w K mg base k_law_body_lines A.a_law_body_lines A.d_law_body_lines ["_law_body_here", "_law_depth"] p_law_body_lines) (h_law_body_lines : k_law_body_lines ≤ k) (cdv : Value) (A0 : Around) (outer : List PySem.Env) (s : Shared) (H : Hp) (E : XK) (hr : Room k (A0.deeper (envOfC "_law_body_lines" (defScope s_law_body_lines) s.heap.objs.size A.a_law_body_lines cdv))) :
    QSs (cxOf (L2.CX P w) P w K mg base N_law_body_lines "_law_body_lines" (defScope s_law_body_lines) A.a_law_body_lines cdv A0 outer s H E) (fun c od _ H => E c od H) (defBody s_law_body_lines) (w_law_body_lines A p_law_deed_text p_law_expression_text p_law_body_lines) := by
  have nd := sc_law_body_lines.nd
  have tk : Takes (cxOf (L2.CX P w) P w K mg base N_law_body_lines "_law_body_lines" (defScope s_law_body_lines) A.a_law_body_lines cdv A0 outer s H E) (fun c od _ H => E c od H) := takes_of rfl rfl rfl rfl
  exact (qss_cons (qs_set 2 nd (qe_lst qa_nil))
    (qss_cons (qs_set 3 nd (qe_mul qe_str (qe_var 1)))
    (qss_cons (qs_for [4] (passes_of rfl) rfl (qi_tup (qe_var 0)) (qg_name 4 nd) (qss_cons (qs_set 5 nd (qe_ix (qe_var 4) qe_int))
    (qss_one (qs_if (qt_cmp (op_eqD (hu64 hr)) o2_eq (qe_var 5) qe_str (nomark _)) (qss_one (qs_expr (qe_append (qe_var 2) (qe_add (qe_add (qe_add (qe_var 3) (qe_ix (qe_var 4) qe_int)) qe_str) (qe_call tk G_law_deed_text (hr.mono h_law_deed_text) rfl T.m_law_deed_text T.f_law_deed_text.kp T.b_law_deed_text (qa_cons (qe_ix (qe_var 4) qe_int) qa_nil)))))) (qss_one (qs_if (qt_cmp (op_eqD (hu64 hr)) o2_eq (qe_var 5) qe_str (nomark _)) (qss_cons (qs_expr (qe_append (qe_var 2) (qe_add (qe_add (qe_add (qe_add (qe_var 3) (qe_ix (qe_var 4) qe_int)) qe_str) (qe_call tk G_law_expression_text (hr.mono h_law_expression_text) rfl T.m_law_expression_text T.f_law_expression_text.kp T.b_law_expression_text (qa_cons (qe_ix (qe_var 4) qe_int) (qa_cons qe_int qa_nil)))) qe_str)))
    (qss_cons (qs_expr (qe_extend (qe_var 2) (qe_call tk G_law_body_lines (hr.mono h_law_body_lines) rfl T.m_law_body_lines T.f_law_body_lines.kp T.b_law_body_lines (qa_cons (qe_ix (qe_var 4) qe_int) (qa_cons (qe_add (qe_var 1) qe_int) qa_nil)))))
    (qss_cons (qs_if (qt_tru (qe_ix (qe_var 4) qe_int)) (qss_cons (qs_expr (qe_append (qe_var 2) (qe_add (qe_var 3) qe_str)))
    (qss_one (qs_expr (qe_extend (qe_var 2) (qe_call tk G_law_body_lines (hr.mono h_law_body_lines) rfl T.m_law_body_lines T.f_law_body_lines.kp T.b_law_body_lines (qa_cons (qe_ix (qe_var 4) qe_int) (qa_cons (qe_add (qe_var 1) qe_int) qa_nil))))))) qss_nil)
    (qss_one (qs_expr (qe_append (qe_var 2) (qe_add (qe_var 3) qe_str))))))) (qss_one (qs_if (qt_cmp (op_inAll (hu65 hr)) o2_in (qe_var 5) (qe_lst (qa_cons qe_str (qa_cons qe_str qa_nil))) (by with_unfolding_all rfl)) (qss_cons (qs_expr (qe_append (qe_var 2) (qe_add (qe_add (qe_add (qe_add (qe_var 3) (qe_var 5)) qe_str) (qe_ix (qe_var 4) qe_int)) qe_str)))
    (qss_cons (qs_expr (qe_extend (qe_var 2) (qe_call tk G_law_body_lines (hr.mono h_law_body_lines) rfl T.m_law_body_lines T.f_law_body_lines.kp T.b_law_body_lines (qa_cons (qe_ix (qe_var 4) qe_int) (qa_cons (qe_add (qe_var 1) qe_int) qa_nil)))))
    (qss_one (qs_expr (qe_append (qe_var 2) (qe_add (qe_var 3) qe_str)))))) (qss_one (qs_if (qt_cmp (op_eqD (hu64 hr)) o2_eq (qe_var 5) qe_str (nomark _)) (qss_one (qs_expr (qe_append (qe_var 2) (qe_add (qe_var 3) qe_str)))) (qss_one (qs_expr (qe_append (qe_var 2) (qe_add (qe_add (qe_add (qe_var 3) (qe_var 5)) qe_str) (qe_ix (qe_var 4) qe_int)))))))))))))))
    (qss_one (qs_ret (qe_var 2))))))
abbrev N_law_drawn_body : List Str := ["_law_script", "_law_first", "_law_count", "_law_stream_here"]
theorem sc_law_drawn_body : FnScope N_law_drawn_body ["_law_script", "_law_first", "_law_count"] (defScope s_law_drawn_body) := ⟨rfl, rfl, rfl, by decide +kernel, rfl, by decide +kernel, by decide +kernel⟩
def w_law_drawn_body (A : Ads) (p_law_stream : SpD) (p_law_next : SpD) (p_law_body : SpD) : DS :=
    (wSeq (wAsg (wCall p_law_stream (wCons (wVar 0) (wCons (wVar 1) (wCons (wVar 2) wNil)))) (gN 3))
    (wSeq (wIfS (wTst (wOp eqD (wCall p_law_next (wCons (wVar 3) (wCons (wC (.int 20)) wNil))) (wC (.int 0)))) (wRet (wTup wNil)) wNext)
    (wRet (wCall p_law_body (wCons (wVar 3) (wCons (wLst wNil) (wCons (wLst wNil) (wCons (wC (.int 0)) wNil))))))))
theorem der_law_drawn_body (T : Txt w K mg A) {k : Nat} {k_law_stream : Nat} {p_law_stream : SpD} (G_law_stream : FnD P w K mg base k_law_stream A.a_law_stream A.d_law_stream ["_law_script", "_law_first", "_law_count"] p_law_stream) (h_law_stream : k_law_stream ≤ k) {k_law_next : Nat} {p_law_next : SpD} (G_law_next : FnD P w K mg base k_law_next A.a_law_next A.d_law_next ["_law_stream_here", "_law_many"] p_law_next) (h_law_next : k_law_next ≤ k) {k_law_body : Nat} {p_law_body : SpD} (G_law_body : FnD P w K mg base k_law_body A.a_law_body A.d_law_body ["_law_stream_here", "_law_state", "_law_around", "_law_depth"] p_law_body) (h_law_body : k_law_body ≤ k) (cdv : Value) (A0 : Around) (outer : List PySem.Env) (s : Shared) (H : Hp) (E : XK) (hr : Room k (A0.deeper (envOfC "_law_drawn_body" (defScope s_law_drawn_body) s.heap.objs.size A.a_law_drawn_body cdv))) :
    QSs (cxOf (L2.CX P w) P w K mg base N_law_drawn_body "_law_drawn_body" (defScope s_law_drawn_body) A.a_law_drawn_body cdv A0 outer s H E) (fun c od _ H => E c od H) (defBody s_law_drawn_body) (w_law_drawn_body A p_law_stream p_law_next p_law_body) := by
  have nd := sc_law_drawn_body.nd
  have tk : Takes (cxOf (L2.CX P w) P w K mg base N_law_drawn_body "_law_drawn_body" (defScope s_law_drawn_body) A.a_law_drawn_body cdv A0 outer s H E) (fun c od _ H => E c od H) := takes_of rfl rfl rfl rfl
  exact (qss_cons (qs_set 3 nd (qe_call tk G_law_stream (hr.mono h_law_stream) rfl T.m_law_stream T.f_law_stream.kp T.b_law_stream (qa_cons (qe_var 0) (qa_cons (qe_var 1) (qa_cons (qe_var 2) qa_nil)))))
    (qss_cons (qs_if (qt_cmp (op_eqD (hu64 hr)) o2_eq (qe_call tk G_law_next (hr.mono h_law_next) rfl T.m_law_next T.f_law_next.kp T.b_law_next (qa_cons (qe_var 3) (qa_cons qe_int qa_nil))) qe_int (nomark _)) (qss_one (qs_ret (qe_tup qa_nil))) qss_nil)
    (qss_one (qs_ret (qe_call tk G_law_body (hr.mono h_law_body) rfl T.m_law_body T.f_law_body.kp T.b_law_body (qa_cons (qe_var 3) (qa_cons (qe_lst qa_nil) (qa_cons (qe_lst qa_nil) (qa_cons qe_int qa_nil)))))))))
abbrev N_law : List Str := ["_law_script", "_law_body_here", "_law_lines", "_law_text"]
theorem sc_law : FnScope N_law ["_law_script"] (defScope s_law) := ⟨rfl, rfl, rfl, by decide +kernel, rfl, by decide +kernel, by decide +kernel⟩
def w_law (A : Ads) (p_law_drawn_body : SpD) (p_law_body_lines : SpD) (p_law_same : SpD) (p_parse_body : SpD) (p_law_spread : SpD) (p_law_stream : SpD) (p_body_text : SpD) : DS :=
    (wSeq (wAsg (wCall p_law_drawn_body (wCons (wVar 0) (wCons (wC (.int 0)) (wCons (wC (.int 30)) wNil)))) (gN 1))
    (wSeq (wAsg (wCall p_law_body_lines (wCons (wVar 1) (wCons (wC (.int 0)) wNil))) (gN 2))
    (wSeq (wIfS (wNot (wTru (wCall p_law_same (wCons (wCall p_parse_body (wCons (wCall p_law_spread (wCons (wVar 2) (wCons (wCall p_law_stream (wCons (wVar 0) (wCons (wC (.int 40)) (wCons (wC (.int 20)) wNil)))) wNil))) wNil)) (wCons (wVar 1) wNil))))) (wRet (wC (.bl false))) wNext)
    (wSeq (wAsg (wBM "str" joinD (wC (.str (tx "\n"))) (wCons (wVar 2) wNil)) (gN 3))
    (wRet (wAndV (wCall p_law_same (wCons (wCall p_body_text (wCons (wVar 1) wNil)) (wCons (wVar 3) wNil))) (wCall p_law_same (wCons (wCall p_parse_body (wCons (wVar 3) wNil)) (wCons (wVar 1) wNil)))))))))
theorem der_law (T : Txt w K mg A) {k : Nat} {k_law_drawn_body : Nat} {p_law_drawn_body : SpD} (G_law_drawn_body : FnD P w K mg base k_law_drawn_body A.a_law_drawn_body A.d_law_drawn_body ["_law_script", "_law_first", "_law_count"] p_law_drawn_body) (h_law_drawn_body : k_law_drawn_body ≤ k) {k_law_body_lines : Nat} {p_law_body_lines : SpD} (G_law_body_lines : FnD P w K mg base k_law_body_lines A.a_law_body_lines A.d_law_body_lines ["_law_body_here", "_law_depth"] p_law_body_lines) (h_law_body_lines : k_law_body_lines ≤ k) {k_law_same : Nat} {p_law_same : SpD} (G_law_same : FnD P w K mg base k_law_same A.a_law_same A.d_law_same ["_law_actual", "_law_expected"] p_law_same) (h_law_same : k_law_same ≤ k) {k_parse_body : Nat} {p_parse_body : SpD} (G_parse_body : FnD P w K mg base k_parse_body A.a_parse_body A.d_parse_body ["text"] p_parse_body) (h_parse_body : k_parse_body ≤ k) {k_law_spread : Nat} {p_law_spread : SpD} (G_law_spread : FnD P w K mg base k_law_spread A.a_law_spread A.d_law_spread ["_law_lines", "_law_stream_here"] p_law_spread) (h_law_spread : k_law_spread ≤ k) {k_law_stream : Nat} {p_law_stream : SpD} (G_law_stream : FnD P w K mg base k_law_stream A.a_law_stream A.d_law_stream ["_law_script", "_law_first", "_law_count"] p_law_stream) (h_law_stream : k_law_stream ≤ k) {k_body_text : Nat} {p_body_text : SpD} (G_body_text : FnD P w K mg base k_body_text A.a_body_text A.d_body_text ["body"] p_body_text) (h_body_text : k_body_text ≤ k) (cdv : Value) (A0 : Around) (outer : List PySem.Env) (s : Shared) (H : Hp) (E : XK) (hr : Room k (A0.deeper (envOfC "law" (defScope s_law) s.heap.objs.size A.a_law cdv))) :
    QSs (cxOf (L2.CX P w) P w K mg base N_law "law" (defScope s_law) A.a_law cdv A0 outer s H E) (fun c od _ H => E c od H) (defBody s_law) (w_law A p_law_drawn_body p_law_body_lines p_law_same p_parse_body p_law_spread p_law_stream p_body_text) := by
  have nd := sc_law.nd
  have tk : Takes (cxOf (L2.CX P w) P w K mg base N_law "law" (defScope s_law) A.a_law cdv A0 outer s H E) (fun c od _ H => E c od H) := takes_of rfl rfl rfl rfl
  exact (qss_cons (qs_set 1 nd (qe_call tk G_law_drawn_body (hr.mono h_law_drawn_body) rfl T.m_law_drawn_body T.f_law_drawn_body.kp T.b_law_drawn_body (qa_cons (qe_var 0) (qa_cons qe_int (qa_cons qe_int qa_nil)))))
    (qss_cons (qs_set 2 nd (qe_call tk G_law_body_lines (hr.mono h_law_body_lines) rfl T.m_law_body_lines T.f_law_body_lines.kp T.b_law_body_lines (qa_cons (qe_var 1) (qa_cons qe_int qa_nil))))
    (qss_cons (qs_if (qt_not (qt_tru (qe_call tk G_law_same (hr.mono h_law_same) rfl T.m_law_same T.f_law_same.kp T.b_law_same (qa_cons (qe_call tk G_parse_body (hr.mono h_parse_body) rfl T.m_parse_body T.f_parse_body.kp T.b_parse_body (qa_cons (qe_call tk G_law_spread (hr.mono h_law_spread) rfl T.m_law_spread T.f_law_spread.kp T.b_law_spread (qa_cons (qe_var 2) (qa_cons (qe_call tk G_law_stream (hr.mono h_law_stream) rfl T.m_law_stream T.f_law_stream.kp T.b_law_stream (qa_cons (qe_var 0) (qa_cons qe_int (qa_cons qe_int qa_nil)))) qa_nil))) qa_nil)) (qa_cons (qe_var 1) qa_nil))))) (qss_one (qs_ret qe_bl)) qss_nil)
    (qss_cons (qs_set 3 nd (qe_join qe_str (qe_var 2)))
    (qss_one (qs_ret (qe_and (qe_call tk G_law_same (hr.mono h_law_same) rfl T.m_law_same T.f_law_same.kp T.b_law_same (qa_cons (qe_call tk G_body_text (hr.mono h_body_text) rfl T.m_body_text T.f_body_text.kp T.b_body_text (qa_cons (qe_var 1) qa_nil)) (qa_cons (qe_var 3) qa_nil))) (qe_one (qe_call tk G_law_same (hr.mono h_law_same) rfl T.m_law_same T.f_law_same.kp T.b_law_same (qa_cons (qe_call tk G_parse_body (hr.mono h_parse_body) rfl T.m_parse_body T.f_parse_body.kp T.b_parse_body (qa_cons (qe_var 3) qa_nil)) (qa_cons (qe_var 1) qa_nil)))))))))))
end
open PySem.NumText
local macro_rules | `(tactic| walk_at "q") => `(tactic| simp only [wSeq, wNext, wEx, wRet, wRetN, wIfS, wAsg, wAug, wSetF, wAugF, wSetL, wRaise, wVar, wC, wOp, wTst, wChain, QL.wTru, wAnd, wOr, QL.wNot, wAndV, wOrV, wNotV, wIf, wNil, wCons, wTup, wLst, wSl, wNo, wSo, wApp, wBM, wBM0, wCall, wMeth, wMake, wFld, wBrk, wCnt, wYes, wTry, wTryAs, wXf, wFmt, wJ, wInK, wIxK, wFor, wLc, wRng1, wRng2, wIt, wItT, wItS, wDnew, wDget, wDget1, wDget2, wInDic, wDput, onK_same, onK_fsame, onKw_same, e_repr, wEnum, wKeys, wRev, wNever, wThru, wLockE, wDc, wTupRev, wSMeth, wipeD, e_tup_o, e_tup_t, e_list_o, e_list_t, e_extT, e_pop,
  gN, gT, gsN, gsC, onS, List.set, List.getElem?_cons_zero, List.getElem?_cons_succ, eqD, neD, isND, isTy_list, isTy_str, isTy_dict, onL_same, upm_same, upm_upm, MO.lst.injEq, MO.ins.injEq, MO.dic.injEq, exists_eq, exists_eq', List.cons.injEq,
  e_add_i, e_add_s, e_add_t, e_add_o, e_int, e_int0, e_mul_i, e_mul_s, e_in_s, e_in_t, e_in_o, e_ix_s, e_ix_t, e_ix_f, e_ix_o, e_sl_s, e_sl_t, e_sl_o, e_tru_n, e_tru_b, e_tru_i, e_tru_s, e_tru_t, e_len_s, e_len_t, e_len_f, e_len_o, e_abs, e_max, e_min, e_int_i, e_int_b, e_int_s, e_str_i, e_str_s, e_isi, e_isE, e_fmt_s, e_strT_i, e_strT_s, e_strT_t, e_fmt_i, e_maxT, e_ty_n, e_ty_b, e_ty_i, e_ty_s, e_ty_t, e_ty_f, e_app, e_ext, e_join_o, e_join_t, e_none_n, e_none_b, e_none_i, e_none_s, e_none_t, e_none_f, e_none_o,
  isiT, List.mem_cons, String.reduceEq, String.reduceBEq, or_true, true_or, or_false, false_or, Bool.or_false, Bool.or_true, Bool.false_or, Bool.true_or, Bool.and_true, Bool.and_false, Bool.true_and, Bool.false_and,
  decide_eq_true_eq, Bool.false_eq_true, if_false, if_true, reduceIte, ite_true, ite_false, true_and, and_true, Option.some.injEq, QL.D.bl.injEq, QL.D.int.injEq, QL.D.str.injEq, exists_eq_left, exists_eq_left', exists_eq_right, deq_str, deq_int, deq_bl, deq_non, deq_non_str, deq_str_non, deq_int_str, deq_str_int, deq_non_int, deq_int_non, deq_tup_str, deq_str_tup, deq_tup_non, deq_non_tup, deq_tup_nil, deq_tup_cons, deq_tup_nc, deq_tup_cn, atI_0, atI_1, atI_2, atI_3, Bool.not_true, Bool.not_false, Bool.false_bne, Bool.true_bne, bne_self_eq_false, Bool.xor_false, Bool.false_xor, Bool.true_xor, List.length_cons, List.length_nil, Nat.zero_le, Nat.reduceAdd, Nat.reduceLeDiff, forall_const])
section
variable {P : Program} {w : World} {K : PySem.W.Frag} {mg : Str → Option Value} {base : Heap} {A : Ads}
def sp_run_end : SpD := fun ds M Q _ => ∃ (line : Tx) (start : Nat) (chars : Tx), ds = [.str line, .int start, .str chars] ∧ start ≤ line.length ∧ line.length ≤ sizeLine ∧ Q (.int ((start + spn chars (line.drop start) : Nat))) M
theorem ok_run_end (T : Txt w K mg A) : FnD P w K mg base 1 A.a_run_end A.d_run_end ["line", "start", "chars"] sp_run_end := by
  refine fnD_of T.f_run_end sc_run_end (fun ds M Q E ⟨_, _, _, h, _⟩ => by rw [h]; rfl) (fun cdv A0 outer s H E hr => der_run_end T cdv A0 outer s H E hr) ?_
  rintro ds M Q E ⟨line, start, chars, rfl, h1, h2, q⟩
  show w_run_end A _ [some (.str line), some (.int start), some (.str chars), none] M
  unfold w_run_end
  walk_at "q"
  obtain ⟨I, hI⟩ : ∃ I : Nat → QL.Env → Mp → Prop, I = fun m δ M' => ∃ e : Nat, δ = [some (.str line), some (.int start), some (.str chars), some (.int e)] ∧ M' = M ∧ m = line.length - e ∧ e ≤ line.length ∧ start + spn chars (line.drop start) = e + spn chars (line.drop e) := ⟨_, rfl⟩
  refine ⟨I, ⟨_, by rw [hI]; exact ⟨start, rfl, rfl, rfl, h1, rfl⟩⟩, ?_⟩
  intro m δ M' h
  rw [hI] at h
  obtain ⟨e, rfl, rfl, rfl, he, hs⟩ := h
  walk_at "q"
  refine ⟨h2, ?_⟩
  have fin : spn chars (line.drop e) = 0 → endR Q (.int (e : Int)) M' := fun z => ⟨M', Sub.refl _, by rw [hs, z] at q; simpa using q⟩
  refine ite2 (fun h => ?_) (fun h => ?_)
  · have h' : e < line.length := by omega
    rw [atI_cast]
    rw [List.getElem?_eq_getElem h']
    walk_at "q"
    refine ⟨h2, ?_⟩
    rw [List.drop_eq_getElem_cons h'] at hs fin
    refine ite2 (fun hc => ?_) (fun hc => ?_)
    · rw [spn_in hc] at hs
      exact ⟨line.length - (e + 1), by omega, by rw [hI]; exact ⟨e + 1, rfl, rfl, rfl, by omega, by omega⟩⟩
    · exact fin (spn_out hc)
  · refine fin ?_
    rw [List.drop_eq_nil_of_le (by omega)]; rfl
def sp_number_of (A : Ads) : SpD := fun ds M Q E => ∃ (d : Tx) (lo hi : Int), ds = [.str d, .int lo, .int hi] ∧ (∀ c ∈ d, c ∈ DIG) ∧ d.length ≤ sizeLine ∧ (∀ n, numB d lo hi = some n → Q (.int n) M) ∧ (numB d lo hi = none → E ⟨A.c_BadLine, []⟩ M)
theorem ok_number_of (T : Txt w K mg A) : FnD P w K mg base 1 A.a_number_of A.d_number_of ["digits", "least", "most"] (sp_number_of A) := by
  refine fnD_of T.f_number_of sc_number_of (fun ds M Q E ⟨_, _, _, h, _⟩ => by rw [h]; rfl) (fun cdv A0 outer s H E hr => der_number_of T cdv A0 outer s H E hr) ?_
  rintro ds M Q E ⟨d, lo, hi, rfl, hd, hl, q, x⟩
  show w_number_of A _ [some (.str d), some (.int lo), some (.int hi)] M
  unfold w_number_of
  walk_at "q"
  have bad : numB d lo hi = none → endX E ⟨A.c_BadLine, []⟩ [some (.str d), some (.int lo), some (.int hi)] M := fun z => ⟨M, Sub.refl _, x z⟩
  refine ⟨rfl, rfl, ?_⟩
  refine ite2 (fun h => ?_) (fun h => ?_)
  · refine bad ?_
    unfold numB; rw [if_pos (.inl (by simpa [tx] using h))]
  have hne : d ≠ [] := fun e => h (by rw [e]; rfl)
  refine ⟨hl, ite2 (fun h7 => ?_) (fun h7 => ?_)⟩
  · refine bad ?_
    unfold numB; rw [if_pos (.inr (.inl (by omega)))]
  cases d with
  | nil => exact absurd rfl hne
  | cons c r =>
    refine ⟨by simpa using hl, c, atI_0 c r, rfl, rfl, ?_⟩
    have e0 : tx "0" = [48] := rfl
    rw [e0]
    have rest : ¬ (c = 48 ∧ 1 < (c :: r).length) → (c :: r).length ≤ 640 ∧ ∃ n, PySem.intText? ⟨(c :: r).toArray⟩ = some n ∧ (if lo ≤ n then (if (!decide (n ≤ hi)) = true then endX E ⟨A.c_BadLine, []⟩ [some (.str (c :: r)), some (.int lo), some (.int hi)] M else
        (c :: r).length ≤ 640 ∧ ∃ n, PySem.intText? ⟨(c :: r).toArray⟩ = some n ∧ endR Q (.int n) M) else endX E ⟨A.c_BadLine, []⟩ [some (.str (c :: r)), some (.int lo), some (.int hi)] M) := by
      intro hz
      have hs : (c :: r).length ≤ 640 := by simp only [List.length_cons] at h7 ⊢; omega
      have hi' := int_text (digits_all hd) (by simp) (show (c :: r).length ≤ 4300 by omega)
      refine ⟨hs, _, hi', ?_⟩
      have e : QL.numB (c :: r) lo hi = if lo ≤ (digitsVal (c :: r) : Nat) ∧ ((digitsVal (c :: r) : Nat) : Int) ≤ hi then some ((digitsVal (c :: r) : Nat) : Int) else none := by
        unfold numB
        rw [if_neg]
        rintro (z | z | ⟨z1, z2⟩)
        · cases z
        · simp only [List.length_cons] at h7 z; omega
        · exact hz ⟨by simpa using z1, z2⟩
      refine ite2 (fun h1 => ?_) (fun h1 => bad (by rw [e, if_neg fun z => h1 z.1]))
      refine ite2 (fun h2 => bad (by rw [e, if_neg fun z => by simp [z.2] at h2])) (fun h2 => ?_)
      rw [if_pos ⟨h1, by simpa using h2⟩] at e
      exact ⟨hs, _, hi', M, Sub.refl _, q _ e⟩
    refine ite2 (fun h0 => ⟨hl, ite2 (fun h1 => bad ?_) fun h1 => rest fun z => h1 (by have := z.2; simp only [List.length_cons] at this ⊢; omega)⟩) fun h0 => rest fun z => h0 (by rw [z.1])
    unfold numB
    rw [if_pos (.inr (.inr ⟨by simpa using h0, by simp only [List.length_cons] at h1 ⊢; omega⟩))]
def sp_word_end (A : Ads) : SpD := fun ds M Q E => ∃ (line : Tx) (start : Nat), ds = [.str line, .int start] ∧ start ≤ line.length ∧ line.length ≤ 1000000 ∧
  (∀ k, wordLen (line.drop start) = some k → Q (.int ((start + k : Nat))) M) ∧ (wordLen (line.drop start) = none → E ⟨A.c_BadLine, []⟩ M)
theorem ok_word_end (T : Txt w K mg A) : FnD P w K mg base 2 A.a_word_end A.d_word_end ["line", "start"] (sp_word_end A) := by
  refine fnD_of T.f_word_end sc_word_end (fun ds M Q E ⟨_, _, h, _⟩ => by rw [h]; rfl) (fun cdv A0 outer s H E hr => der_word_end T (ok_run_end T) (Nat.le_refl _) (ok_number_of T) (Nat.le_refl _) cdv A0 outer s H E hr) ?_
  rintro ds M Q E ⟨line, start, rfl, h1, h2, q, x⟩
  show w_word_end A _ _ _ [some (.str line), some (.int start), none, none] M
  have hl : line.length ≤ sizeLine := by rw [line_eq]; omega
  unfold w_word_end
  walk_at "q"
  refine ⟨line, start, LET, rfl, h1, hl, ?_⟩
  walk_at "q"
  have eg : line[start + spn LET (line.drop start)]? = (line.drop start)[spn LET (line.drop start)]? := by rw [List.getElem?_drop]
  have hs := spn_le LET (line.drop start)
  rw [List.length_drop] at hs
  have hw : wordLen (line.drop start) = if 8 < spn LET (line.drop start) then none else if line[start + spn LET (line.drop start)]? = some 46 then
      (if (QL.numB ((line.drop (start + spn LET (line.drop start) + 1)).take (spn DIG (line.drop (start + spn LET (line.drop start) + 1)))) 2 99).isSome then some (spn LET (line.drop start) + 1 + spn DIG (line.drop (start + spn LET (line.drop start) + 1))) else none) else some (spn LET (line.drop start)) := by
    rw [eg]
    unfold wordLen
    simp only [List.drop_drop, Nat.add_assoc]
  rw [hw] at q x
  generalize spn LET (line.drop start) = k at *
  refine ite2 (fun h8 => ?_) (fun h8 => ?_)
  · have h8' : 8 < k := by omega
    rw [if_pos h8'] at x
    exact ⟨M, Sub.refl _, x rfl⟩
  rw [if_neg (show ¬ 8 < k by omega)] at q x
  refine ⟨hl, ?_⟩
  refine ite2 (fun hk => ?_) (fun hk => ?_)
  · have hk' : start + k < line.length := by omega
    rw [List.getElem?_eq_getElem hk'] at q x
    refine ⟨hl, line[start + k], (atI_cast line (start + k)).trans (List.getElem?_eq_getElem hk'), rfl, rfl, ?_⟩
    have e0 : tx "." = [46] := rfl
    rw [e0]
    refine ite2 (fun hd => ?_) (fun hd => ?_)
    · have hd' : line[start + k] = 46 := by simpa using hd
      rw [if_pos (by rw [hd'])] at q x
      refine ⟨line, start + k + 1, DIG, rfl, by omega, hl, ?_⟩
      walk_at "q"
      have hm := spn_le DIG (line.drop (start + k + 1))
      rw [List.length_drop] at hm
      have mem := spn_mem (cs := DIG) (l := line.drop (start + k + 1))
      generalize spn DIG (line.drop (start + k + 1)) = m at *
      have ec : cut line (some (((start + k : Nat) : Int) + 1)) (some ((start + k + 1 + m : Nat) : Int)) = (line.drop (start + k + 1)).take m := by
        rw [show (((start + k : Nat) : Int) + 1) = ((start + k + 1 : Nat) : Int) by omega, cut_nat _ _ _ (by omega)]
        congr 1; omega
      refine ⟨hl, ?_⟩
      rw [ec]
      refine ⟨_, 2, 99, rfl, mem, by rw [List.length_take, List.length_drop]; omega, fun n hn => ?_, fun hn => ?_⟩
      · rw [hn] at q
        exact ⟨M, Sub.refl _, by have := q _ rfl; rwa [show start + (k + 1 + m) = start + k + 1 + m by omega] at this⟩
      · rw [hn] at x
        exact ⟨M, Sub.refl _, x rfl⟩
    · rw [if_neg (by intro z; exact hd (by simpa using z))] at q
      exact ⟨M, Sub.refl _, q _ rfl⟩
  · rw [List.getElem?_eq_none (by omega), if_neg (by intro z; cases z)] at q
    exact ⟨M, Sub.refl _, q _ rfl⟩
def sp_signs_of (A : Ads) : SpD := fun ds M Q E => ∃ line : Tx, ds = [.str line] ∧ line.length ≤ 1000000 ∧ (∀ t, lex line = some t → ∀ p, M p = none → Q (.ob p) (upm M p (.lst t))) ∧ (lex line = none → E ⟨A.c_BadLine, []⟩ M)
theorem ok_signs_of (T : Txt w K mg A) : FnD P w K mg base 3 A.a_signs_of A.d_signs_of ["line"] (sp_signs_of A) := by
  refine fnD_of T.f_signs_of sc_signs_of (fun ds M Q E ⟨_, h, _⟩ => by rw [h]; rfl) (fun cdv A0 outer s H E hr => der_signs_of T (ok_word_end T) (Nat.le_refl _) (ok_run_end T) (by decide) (ok_number_of T) (by decide) cdv A0 outer s H E hr) ?_
  rintro ds M Q E ⟨line, rfl, h2, q, x⟩
  show w_signs_of A _ _ _ _ [some (.str line), none, none, none, none] M
  have hl : line.length ≤ sizeLine := by rw [line_eq]; omega
  unfold w_signs_of
  walk_at "q"
  intro p hp
  obtain ⟨I, hI⟩ : ∃ I : Nat → QL.Env → Mp → Prop, I = fun m δ M' => ∃ (i : Nat) (acc : List QL.D) (u v : Option QL.D), δ = [some (.str line), some (.ob p), some (.int i), u, v] ∧ M' = upm M p (.lst acc) ∧ m = line.length - i ∧ i ≤ line.length ∧ acc.length ≤ i ∧ lex line = (lex (line.drop i)).map (acc ++ ·) := ⟨_, rfl⟩
  refine ⟨I, ⟨_, by rw [hI]; exact ⟨0, [], none, none, rfl, rfl, rfl, Nat.zero_le _, Nat.le_refl _, by simp⟩⟩, ?_⟩
  intro m δ M' h
  rw [hI] at h
  obtain ⟨i, acc, u, v, rfl, rfl, rfl, hi, ha, hx⟩ := h
  have fin : lex (line.drop i) = some [] → endR Q (.ob p) (upm M p (.lst acc)) := fun z => ⟨_, Sub.refl _, q acc (by rw [hx, z]; simp) p hp⟩
  have bad : lex (line.drop i) = none → ∀ δ, endX E ⟨A.c_BadLine, []⟩ δ (upm M p (.lst acc)) := fun z δ => ⟨M, Sub.new hp (Sub.refl _), x (by rw [hx, z]; rfl)⟩
  walk_at "q"
  refine ⟨hl, ite2 (fun h => ?t1) (fun h => ?t2)⟩
  case t2 => exact fin (by rw [List.drop_eq_nil_of_le (by omega)]; rfl)
  have hi' : i < line.length := by omega
  have ed := List.drop_eq_getElem_cons hi'
  rw [atI_cast, List.getElem?_eq_getElem hi']
  rw [ed, lex_cons] at hx bad
  walk_at "q"
  refine ⟨hl, ?_⟩
  generalize hc : line[i] = c at *
  generalize hr : line.drop (i + 1) = r at *
  -- behind a sign
  have turn : ∀ (t : List QL.D) (k : Nat) (u v : Option QL.D), lex1 c r = some (t, k) → ∃ m', m' < line.length - i ∧ I m' [some (QL.D.str line), some (.ob p), some (.int ((i + k : Nat) : Int)), u, v] (upm M p (.lst (acc ++ t))) := by
    intro t k u v e
    obtain ⟨k1, k2, k3⟩ := lex1_pos e
    have hlen : (c :: r).length = line.length - i := by rw [← ed, List.length_drop]
    refine ⟨line.length - (i + k), by omega, ?_⟩
    rw [hI]
    refine ⟨i + k, acc ++ t, u, v, rfl, rfl, rfl, by omega, by rw [List.length_append]; omega, ?_⟩
    rw [e] at hx
    simp only at hx
    rw [← ed, List.drop_drop] at hx
    rw [hx, Option.map_map]
    congr 1
    funext z
    simp
  have hacc : acc.length < sizeLine := by rw [line_eq]; omega
  have eL : tx "abcdefghijklmnopqrstuvwxyz" = LET := rfl
  have eD : tx "0123456789" = DIG := rfl
  have eS : tx "(){}:=+-*<" = SYM := rfl
  have e32 : tx " " = [32] := rfl
  have ecut : ∀ k, cut line (some (i : Int)) (some ((i + k : Nat) : Int)) = (c :: r).take k := fun k => by rw [cut_nat _ _ _ hi, ← ed, show i + k - i = k by omega]
  rw [eL, eD, eS, e32]
  refine ite2 (fun hL => ?_) (fun hL => ?_)
  · refine ⟨line, i, rfl, hi, h2, fun k hk => ?_, fun hk => ?_⟩
    · rw [ed] at hk
      walk_at "q"
      refine ⟨hl, hacc, ?_⟩
      rw [ecut]
      exact turn [dW ((c :: r).take k)] k _ _ (by unfold lex1; rw [if_pos hL, hk]; rfl)
    · rw [ed] at hk
      exact bad (by unfold lex1; rw [if_pos hL, hk]; rfl) _
  refine ite2 (fun hD => ?_) (fun hD => ?_)
  · refine ⟨line, i, DIG, rfl, hi, hl, ?_⟩
    rw [ed]
    walk_at "q"
    refine ⟨hl, ?_⟩
    rw [ecut]
    refine ⟨_, 0, 1000000, rfl, spn_mem, by rw [List.length_take]; have := congrArg List.length ed; rw [List.length_drop] at this; omega, fun n hn => ?_, fun hn => ?_⟩
    · walk_at "q"
      refine ⟨hacc, ?_⟩
      exact turn [dN n] _ _ _ (by unfold lex1; rw [if_neg hL, if_pos hD, hn]; rfl)
    · exact bad (by unfold lex1; rw [if_neg hL, if_pos hD, hn]; rfl) _
  refine ite2 (fun hS => ?_) (fun hS => ?_)
  · refine ⟨hacc, ?_⟩
    exact turn [dY c] 1 _ _ (by unfold lex1; rw [if_neg hL, if_neg hD, if_pos hS])
  refine ⟨rfl, rfl, ite2 (fun h3 => ?_) (fun h3 => ?_)⟩
  · have h3' : ¬ c = 32 := fun z => by simp [z] at h3
    exact bad (by unfold lex1; rw [if_neg hL, if_neg hD, if_neg hS, if_neg h3']) _
  · have h3' : c = 32 := by simpa using h3
    have := turn [] 1 (some (.str [c])) (some (.int ((i : Int) + 1))) (by unfold lex1; rw [if_neg hL, if_neg hD, if_neg hS, if_pos h3'])
    rw [List.append_nil] at this
    exact this
end
section
variable {P : Program} {w : World} {K : PySem.W.Frag} {mg : Str → Option Value} {base : Heap} {A : Ads}
/-- the reader: its signs, what is left of them -/
def rdF (a : Addr) (p : Nat) : List (Str × QL.D) := [("signs", .ob a), ("place", .int p)]
abbrev rdM (A : Ads) (r a : Addr) (all ts : List Tk) (M : Mp) : Mp := upm M r (.ins A.c_Reader (rdF a (all.length - ts.length)))
structure Rdr (A : Ads) (r a : Addr) (all ts : List Tk) (M : Mp) : Prop where
  i : M r = some (.ins A.c_Reader (rdF a (all.length - ts.length)))
  l : M a = some (.lst (all.map Tk.D))
  s : ts <:+ all
  ok : ∀ t ∈ all, TkOk t
  n : all.length ≤ 1000000
theorem Rdr.ne {r a : Addr} {all ts : List Tk} {M : Mp} (h : Rdr A r a all ts M) : a ≠ r := fun e => by
  have := h.l; rw [e, h.i] at this; cases this
theorem Rdr.to {r a : Addr} {all ts us : List Tk} {M : Mp} (h : Rdr A r a all ts M) (k : us <:+ all) : Rdr A r a all us (rdM A r a all us M) :=
  ⟨upm_same, (upm_ne h.ne).trans h.l, k, h.ok, h.n⟩
theorem Rdr.at_ {r a : Addr} {all ts : List Tk} {M : Mp} (h : Rdr A r a all ts M) : (all.map Tk.D)[all.length - ts.length]? = (ts.head?).map Tk.D := by
  obtain ⟨pre, rfl⟩ := h.s
  rw [List.length_append, Nat.add_sub_cancel, List.map_append, List.getElem?_append_right (by simp)]
  simp
  cases ts <;> rfl
theorem Rdr.tl {r a : Addr} {all ts : List Tk} {t : Tk} {M : Mp} (h : Rdr A r a all (t :: ts) M) : ts <:+ all ∧ all.length - (t :: ts).length + 1 = all.length - ts.length := by
  have s := h.s
  refine ⟨(List.suffix_cons t ts).trans s, ?_⟩
  have := s.length_le
  simp only [List.length_cons] at this ⊢
  omega
theorem Rdr.hd {r a : Addr} {all ts : List Tk} {t : Tk} {M : Mp} (h : Rdr A r a all (t :: ts) M) : TkOk t := h.ok t (h.s.subset (by simp))
theorem rdF_p {a : Addr} {p : Nat} : (rdF a p).lookup ("place" : Str) = some (.int p) := rfl
theorem rdF_s {a : Addr} {p : Nat} : (rdF a p).lookup ("signs" : Str) = some (.ob a) := rfl
theorem rdF_m1 {a : Addr} {p : Nat} : (rdF a p).lookup ("peek" : Str) = none := rfl
theorem rdF_m2 {a : Addr} {p : Nat} : (rdF a p).lookup ("take" : Str) = none := rfl
theorem rdF_m3 {a : Addr} {p : Nat} : (rdF a p).lookup ("skip" : Str) = none := rfl
theorem rdF_m4 {a : Addr} {p : Nat} : (rdF a p).lookup ("expect" : Str) = none := rfl
theorem rdF_m5 {a : Addr} {p : Nat} : (rdF a p).lookup ("take_name" : Str) = none := rfl
theorem rdF_m6 {a : Addr} {p : Nat} : (rdF a p).lookup ("finish" : Str) = none := rfl
theorem rdF_put {a : Addr} {p q : Nat} : putD ("place" : Str) (.int q) (rdF a p) = rdF a q := rfl
theorem rdF_len {a : Addr} {p : Nat} : (rdF a p).length < 1000 := (show 2 < 1000 by decide)
def sp_Reader__init (A : Ads) : SpD := fun ds M Q _ => ∃ (r a : Addr) (ts : List Tk), ds = [.ob r, .ob a] ∧ M r = some (.ins A.c_Reader []) ∧ Q .non (rdM A r a ts ts M)
theorem ok_Reader__init (T : Txt w K mg A) : FnD P w K mg base 1 A.a_Reader__init A.d_Reader__init ["self", "signs"] (sp_Reader__init A) := by
  refine fnD_of T.f_Reader__init sc_Reader__init (fun ds M Q E ⟨_, _, _, h, _⟩ => by rw [h]; rfl) (fun cdv A0 outer s H E hr => der_Reader__init T cdv A0 outer s H E hr) ?_
  rintro ds M Q E ⟨r, a, ts, rfl, h, k⟩
  show w_Reader__init A _ [some (.ob r), some (.ob a)] M
  unfold w_Reader__init
  (repeat (first | walk_at "q" | simp only [QL.D.ob.injEq, exists_and_left, exists_eq_left', MO.ins.injEq, Option.some.injEq, true_and, and_true, onL_same, upm_same, upm_upm, h]))
  refine ⟨by decide, (show 1 < 1000 by decide), _, Sub.refl _, ?_⟩
  have e : (rdF a (ts.length - ts.length)) = putD "place" (.int 0) (putD "signs" (.ob a) []) := by rw [Nat.sub_self]; rfl
  rw [← e]; exact k
def sp_Reader_peek (A : Ads) : SpD := fun ds M Q _ => ∃ (r a : Addr) (all ts : List Tk), ds = [.ob r] ∧ Rdr A r a all ts M ∧ Q (hdD ts) M
theorem ok_Reader_peek (T : Txt w K mg A) : FnD P w K mg base 1 A.a_Reader_peek A.d_Reader_peek ["self"] (sp_Reader_peek A) := by
  refine fnD_of T.f_Reader_peek sc_Reader_peek (fun ds M Q E ⟨_, _, _, _, h, _⟩ => by rw [h]; rfl) (fun cdv A0 outer s H E hr => der_Reader_peek T cdv A0 outer s H E hr) ?_
  rintro ds M Q E ⟨r, a, all, ts, rfl, R, k⟩
  show w_Reader_peek A _ [some (.ob r)] M
  unfold w_Reader_peek
  (repeat (first | walk_at "q" | simp only [QL.D.ob.injEq, exists_and_left, exists_eq_left', MO.ins.injEq, Option.some.injEq, true_and, and_true, onL_same, upm_same, upm_upm, R.i, rdF_p, rdF_s, onL_of R.l, List.length_map]))
  refine ite2 (fun h => ?_) (fun h => ?_)
  · rw [atI_cast, R.at_]
    cases ts with
    | nil => simp at h
    | cons t ts => exact ⟨_, rfl, M, Sub.refl _, k⟩
  · cases ts with
    | nil => exact ⟨M, Sub.refl _, k⟩
    | cons t ts =>
      have := R.s.length_le
      simp only [List.length_cons] at this h
      omega
def ErrR (A : Ads) (r : Addr) (M : Mp) (E : XKD) : Prop := ∀ M', Ext r M M' → E ⟨A.c_BadLine, []⟩ M'
theorem ErrR.self {r : Addr} {M : Mp} {E : XKD} (h : ErrR A r M E) : E ⟨A.c_BadLine, []⟩ M := h M (Ext.refl r M)
theorem ErrR.at_ {r : Addr} {M : Mp} {E : XKD} (h : ErrR A r M E) (o : MO) : ErrR A r (upm M r o) E := fun M' e => h M' fun a u n z => e a u n (by rw [upm_ne n]; exact z)
def sp_Reader_take (A : Ads) : SpD := fun ds M Q _ => ∃ (r a : Addr) (all ts : List Tk), ds = [.ob r] ∧ Rdr A r a all ts M ∧ (∀ t rest, ts = t :: rest → Q t.D (rdM A r a all rest M)) ∧ (ts = [] → Q (.tup [.non, .non]) (upm M r (.ins A.c_Reader (rdF a (all.length + 1)))))
theorem ok_Reader_take (T : Txt w K mg A) : FnD P w K mg base 2 A.a_Reader_take A.d_Reader_take ["self"] (sp_Reader_take A) := by
  refine fnD_of T.f_Reader_take sc_Reader_take (fun ds M Q E ⟨_, _, _, _, h, _⟩ => by rw [h]; rfl) (fun cdv A0 outer s H E hr => der_Reader_take T (ok_Reader_peek T) (Nat.le_refl _) cdv A0 outer s H E hr) ?_
  rintro ds M Q E ⟨r, a, all, ts, rfl, R, k1, k2⟩
  show w_Reader_take A _ _ [some (.ob r), none] M
  unfold w_Reader_take
  (repeat (first | walk_at "q" | simp only [QL.D.ob.injEq, exists_and_left, exists_eq_left', MO.ins.injEq, Option.some.injEq, true_and, and_true, onL_same, upm_same, upm_upm, R.i, rdF_m1]))
  refine ⟨r, a, all, ts, rfl, R, ?_⟩
  (repeat (first | walk_at "q" | simp only [QL.D.ob.injEq, exists_and_left, exists_eq_left', MO.ins.injEq, Option.some.injEq, true_and, and_true, onL_same, upm_same, upm_upm, R.i, rdF_p]))
  refine ⟨rdF_len, _, Sub.refl _, ?_⟩
  cases ts with
  | nil => exact k2 rfl
  | cons t rest =>
    have := R.tl.2
    have e : (((all.length - (t :: rest).length : Nat) : Int) + 1) = ((all.length - rest.length : Nat) : Int) := by omega
    rw [e, rdF_put]
    exact k1 t rest rfl
def sp_Reader_skip (A : Ads) : SpD := fun ds M Q _ => ∃ (r a : Addr) (all ts : List Tk) (kd vl : QL.D) (t : Tk), ds = [.ob r, kd, vl] ∧ t.D = .tup [kd, vl] ∧ Rdr A r a all ts M ∧ (∀ rest, ts = t :: rest → Q (.bl true) (rdM A r a all rest M)) ∧ (ts.head? ≠ some t → Q (.bl false) M)
theorem ok_Reader_skip (T : Txt w K mg A) : FnD P w K mg base 2 A.a_Reader_skip A.d_Reader_skip ["self", "kind", "value"] (sp_Reader_skip A) := by
  refine fnD_of T.f_Reader_skip sc_Reader_skip (fun ds M Q E ⟨_, _, _, _, _, _, _, h, _⟩ => by rw [h]; rfl) (fun cdv A0 outer s H E hr => der_Reader_skip T (ok_Reader_peek T) (Nat.le_refl _) cdv A0 outer s H E hr) ?_
  rintro ds M Q E ⟨r, a, all, ts, kd, vl, t, rfl, ht, R, k1, k2⟩
  show w_Reader_skip A _ _ [some (.ob r), some kd, some vl] M
  unfold w_Reader_skip
  (repeat (first | walk_at "q" | simp only [QL.D.ob.injEq, exists_and_left, exists_eq_left', MO.ins.injEq, Option.some.injEq, true_and, and_true, onL_same, upm_same, upm_upm, R.i, rdF_m1]))
  refine ⟨r, a, all, ts, rfl, R, ?_⟩
  (repeat (first | walk_at "q" | simp only [QL.D.ob.injEq, exists_and_left, exists_eq_left', MO.ins.injEq, Option.some.injEq, true_and, and_true, onL_same, upm_same, upm_upm, R.i, rdF_p]))
  rw [← ht, deq_hd]
  refine ⟨okN_hd ts, okN_tk t, ite2 (fun h => ?_) (fun h => ⟨M, Sub.refl _, k2 (by simpa using h)⟩)⟩
  have h : ts.head? = some t := by simpa using h
  cases ts with
  | nil => cases h
  | cons x rest =>
    cases h
    have := R.tl.2
    have e : (((all.length - (t :: rest).length : Nat) : Int) + 1) = ((all.length - rest.length : Nat) : Int) := by omega
    rw [e, rdF_put]
    exact ⟨rdF_len, _, Sub.refl _, k1 rest rfl⟩
def sp_is_name : SpD := fun ds M Q _ => ∃ v : Tx, ds = [.str v] ∧ Q (.bl (isName v)) M
theorem ok_is_name (T : Txt w K mg A) : FnD P w K mg base 1 A.a_is_name A.d_is_name ["word"] sp_is_name := by
  refine fnD_of T.f_is_name sc_is_name (fun ds M Q E ⟨_, h, _⟩ => by rw [h]; rfl) (fun cdv A0 outer s H E hr => der_is_name T cdv A0 outer s H E hr) ?_
  rintro ds M Q E ⟨v, rfl, k⟩
  show w_is_name A _ [some (.str v)] M
  unfold w_is_name
  (repeat (first | walk_at "q" | simp only [QL.D.ob.injEq, exists_and_left, exists_eq_left', MO.ins.injEq, Option.some.injEq, true_and, and_true, onL_same, upm_same, upm_upm]))
  have ek : d_KEYWORDS = KWS.map QL.D.str := rfl
  refine ⟨46, rfl, ?_⟩
  rw [ek, any_kw]
  refine ite2 (fun h => ⟨rfl, rfl, M, Sub.refl _, ?_⟩) (fun h => ⟨M, Sub.refl _, ?_⟩)
  · have e : isName v = !decide (v ∈ KWS) := by rw [name_dot]; simp at h; simp [h]
    rw [← e]; exact k
  · have e : isName v = !decide (46 ∈ v) := by rw [name_dot]; simp at h; simp [h]
    rw [← e]; exact k
def sp_Reader_expect (A : Ads) : SpD := fun ds M Q E => ∃ (r a : Addr) (all ts : List Tk) (kd vl : QL.D) (t : Tk), ds = [.ob r, kd, vl] ∧ t.D = .tup [kd, vl] ∧ Rdr A r a all ts M ∧ (∀ rest, ts = t :: rest → Q .non (rdM A r a all rest M)) ∧ (ts.head? ≠ some t → ErrR A r M E)
theorem ok_Reader_expect (T : Txt w K mg A) : FnD P w K mg base 3 A.a_Reader_expect A.d_Reader_expect ["self", "kind", "value"] (sp_Reader_expect A) := by
  refine fnD_of T.f_Reader_expect sc_Reader_expect (fun ds M Q E ⟨_, _, _, _, _, _, _, h, _⟩ => by rw [h]; rfl) (fun cdv A0 outer s H E hr => der_Reader_expect T (ok_Reader_skip T) (Nat.le_refl _) cdv A0 outer s H E hr) ?_
  rintro ds M Q E ⟨r, a, all, ts, kd, vl, t, rfl, ht, R, k1, k2⟩
  show w_Reader_expect A _ _ [some (.ob r), some kd, some vl] M
  unfold w_Reader_expect
  (repeat (first | walk_at "q" | simp only [QL.D.ob.injEq, exists_and_left, exists_eq_left', MO.ins.injEq, Option.some.injEq, true_and, and_true, onL_same, upm_same, upm_upm, R.i, rdF_m3]))
  refine ⟨r, a, all, ts, kd, vl, t, rfl, ht, R, fun rest h => ?_, fun h => ?_⟩
  · (repeat (first | walk_at "q" | simp only [QL.D.ob.injEq, exists_and_left, exists_eq_left', MO.ins.injEq, Option.some.injEq, true_and, and_true, onL_same, upm_same, upm_upm]))
    exact ⟨_, Sub.refl _, k1 rest h⟩
  · (repeat (first | walk_at "q" | simp only [QL.D.ob.injEq, exists_and_left, exists_eq_left', MO.ins.injEq, Option.some.injEq, true_and, and_true, onL_same, upm_same, upm_upm]))
    exact ⟨M, Sub.refl _, (k2 h).self⟩
def sp_Reader_take_name (A : Ads) : SpD := fun ds M Q E => ∃ (r a : Addr) (all ts : List Tk), ds = [.ob r] ∧ Rdr A r a all ts M ∧ (∀ v rest, ts = .w v :: rest → isName v = true → Q (.str v) (rdM A r a all rest M)) ∧ ((∀ v rest, ts = .w v :: rest → isName v = false) → ErrR A r M E)
theorem ok_Reader_take_name (T : Txt w K mg A) : FnD P w K mg base 3 A.a_Reader_take_name A.d_Reader_take_name ["self"] (sp_Reader_take_name A) := by
  refine fnD_of T.f_Reader_take_name sc_Reader_take_name (fun ds M Q E ⟨_, _, _, _, h, _⟩ => by rw [h]; rfl) (fun cdv A0 outer s H E hr => der_Reader_take_name T (ok_Reader_take T) (Nat.le_refl _) (ok_is_name T) (by decide) cdv A0 outer s H E hr) ?_
  rintro ds M Q E ⟨r, a, all, ts, rfl, R, k1, k2⟩
  show w_Reader_take_name A _ _ _ [some (.ob r), none, none] M
  unfold w_Reader_take_name
  (repeat (first | walk_at "q" | simp only [QL.D.ob.injEq, exists_and_left, exists_eq_left', MO.ins.injEq, Option.some.injEq, true_and, and_true, onL_same, upm_same, upm_upm, R.i, rdF_m2]))
  refine ⟨r, a, all, ts, rfl, R, fun t rest h => ?_, fun h => ?_⟩
  · subst h
    have ext : ∀ o, Ext r M (upm M r o) := fun o => (Ext.refl r M).at
    obtain ⟨t2, t3, t4⟩ := tags
    cases t with
    | w v =>
      simp only [Tk.D, dW]
      (repeat (first | walk_at "q" | simp only [QL.D.ob.injEq, exists_and_left, exists_eq_left', MO.ins.injEq, Option.some.injEq, true_and, and_true, onL_same, upm_same, upm_upm]))
      refine ⟨rfl, rfl, ?_⟩
      simp only [Bool.not_eq_true', decide_true, Bool.false_eq_true, if_false, reduceCtorEq, Bool.true_eq_false]
      refine ⟨v, rfl, ?_⟩
      (repeat (first | walk_at "q" | simp only [QL.D.ob.injEq, exists_and_left, exists_eq_left', MO.ins.injEq, Option.some.injEq, true_and, and_true, onL_same, upm_same, upm_upm]))
      cases hv : isName v with
      | true =>
        (repeat (first | walk_at "q" | simp only [QL.D.ob.injEq, exists_and_left, exists_eq_left', MO.ins.injEq, Option.some.injEq, true_and, and_true, onL_same, upm_same, upm_upm]))
        exact ⟨_, Sub.refl _, k1 v rest rfl hv⟩
      | false =>
        (repeat (first | walk_at "q" | simp only [QL.D.ob.injEq, exists_and_left, exists_eq_left', MO.ins.injEq, Option.some.injEq, true_and, and_true, onL_same, upm_same, upm_upm]))
        exact ⟨_, Sub.refl _, k2 (fun u r' e => by cases e; exact hv) _ (ext _)⟩
    | n n =>
      simp only [Tk.D, dN]
      (repeat (first | walk_at "q" | simp only [QL.D.ob.injEq, exists_and_left, exists_eq_left', MO.ins.injEq, Option.some.injEq, true_and, and_true, onL_same, upm_same, upm_upm]))
      refine ⟨rfl, rfl, ?_⟩
      simp only [Ne.symm t2, decide_false, Bool.not_false, if_true]
      (repeat (first | walk_at "q" | simp only [QL.D.ob.injEq, exists_and_left, exists_eq_left', MO.ins.injEq, Option.some.injEq, true_and, and_true, onL_same, upm_same, upm_upm]))
      exact ⟨_, Sub.refl _, k2 (fun u r' e => by cases e) _ (ext _)⟩
    | y c =>
      simp only [Tk.D, dY]
      (repeat (first | walk_at "q" | simp only [QL.D.ob.injEq, exists_and_left, exists_eq_left', MO.ins.injEq, Option.some.injEq, true_and, and_true, onL_same, upm_same, upm_upm]))
      refine ⟨rfl, rfl, ?_⟩
      simp only [Ne.symm t3, decide_false, Bool.not_false, if_true]
      (repeat (first | walk_at "q" | simp only [QL.D.ob.injEq, exists_and_left, exists_eq_left', MO.ins.injEq, Option.some.injEq, true_and, and_true, onL_same, upm_same, upm_upm]))
      exact ⟨_, Sub.refl _, k2 (fun u r' e => by cases e) _ (ext _)⟩
  · subst h
    have ext : ∀ o, Ext r M (upm M r o) := fun o => (Ext.refl r M).at
    (repeat (first | walk_at "q" | simp only [QL.D.ob.injEq, exists_and_left, exists_eq_left', MO.ins.injEq, Option.some.injEq, true_and, and_true, onL_same, upm_same, upm_upm]))
    exact ⟨rfl, rfl, _, Sub.refl _, k2 (fun u r' e => by cases e) _ (ext _)⟩
def sp_Reader_finish (A : Ads) : SpD := fun ds M Q E => ∃ (r a : Addr) (all ts : List Tk), ds = [.ob r] ∧ Rdr A r a all ts M ∧ (ts = [] → Q .non M) ∧ (ts ≠ [] → E ⟨A.c_BadLine, []⟩ M)
theorem ok_Reader_finish (T : Txt w K mg A) : FnD P w K mg base 1 A.a_Reader_finish A.d_Reader_finish ["self"] (sp_Reader_finish A) := by
  refine fnD_of T.f_Reader_finish sc_Reader_finish (fun ds M Q E ⟨_, _, _, _, h, _⟩ => by rw [h]; rfl) (fun cdv A0 outer s H E hr => der_Reader_finish T cdv A0 outer s H E hr) ?_
  rintro ds M Q E ⟨r, a, all, ts, rfl, R, k1, k2⟩
  show w_Reader_finish A _ [some (.ob r)] M
  unfold w_Reader_finish
  (repeat (first | walk_at "q" | simp only [QL.D.ob.injEq, exists_and_left, exists_eq_left', MO.ins.injEq, Option.some.injEq, true_and, and_true, onL_same, upm_same, upm_upm, R.i, rdF_p, rdF_s, onL_of R.l, List.length_map]))
  have := R.s.length_le
  refine ite2 (fun h => ⟨M, Sub.refl _, k2 fun e => ?_⟩) (fun h => ⟨M, Sub.refl _, k1 ?_⟩)
  · subst e; simp at h
  · cases ts with
    | nil => rfl
    | cons t ts => simp only [List.length_cons] at this h; omega
end
section
variable {P : Program} {w : World} {K : PySem.W.Frag} {mg : Str → Option Value} {base : Heap} {A : Ads}
def sp_joined (A : Ads) : SpD := fun ds M Q E => ∃ (c : Nat) (l r : QL.D) (h1 h2 : Nat), ds = [.str [c], l, r, .tup [.int h1, .int h2]] ∧ (¬ 20 < 1 + max h1 h2 → Q (.tup [.tup [.str [c], l, r], .int ((1 + max h1 h2 : Nat))]) M) ∧ (20 < 1 + max h1 h2 → E ⟨A.c_BadLine, []⟩ M)
theorem ok_joined (T : Txt w K mg A) : FnD P w K mg base 1 A.a_joined A.d_joined ["sign", "left", "right", "heights"] (sp_joined A) := by
  refine fnD_of T.f_joined sc_joined (fun ds M Q E ⟨_, _, _, _, _, h, _⟩ => by rw [h]; rfl) (fun cdv A0 outer s H E hr => der_joined T cdv A0 outer s H E hr) ?_
  rintro ds M Q E ⟨c, l, r, h1, h2, rfl, k1, k2⟩
  show w_joined A _ [some (.str [c]), some l, some r, some (.tup [.int h1, .int h2]), none] M
  unfold w_joined
  (repeat (first | walk_at "q" | simp only [QL.D.ob.injEq, exists_and_left, exists_eq_left', MO.ins.injEq, Option.some.injEq, true_and, and_true, onL_same, upm_same, upm_upm, e_maxT]))
  have e : (1 + max (h1 : Int) (h2 : Int)) = ((1 + max h1 h2 : Nat) : Int) := by omega
  rw [e]
  refine ite2 (fun h => ⟨M, Sub.refl _, k2 (by omega)⟩) (fun h => ?_)
  exact ⟨M, Sub.refl _, k1 (by omega)⟩
/-- a function that reads an expression, with at most n parentheses left to be opened -/
def sp_rd (A : Ads) (F : Nat → PR) (n : Nat) : SpD := fun ds M Q E => ∃ (r a : Addr) (all ts : List Tk) (k : Nat), ds = [.ob r, .int ((20 - k : Nat))] ∧ k ≤ n ∧ n ≤ 20 ∧ Rdr A r a all ts M ∧
  (∀ e h rest, F k ts = some (e, h, rest) → rest <:+ all → Q (.tup [Ex.D e, .int (h : Nat)]) (rdM A r a all rest M)) ∧ (F k ts = none → ErrR A r M E)
theorem ok_read_primary (T : Txt w K mg A) {n kc : Nat} {spc : SpD} (C : FnD P w K mg base kc A.a_read_comparison A.d_read_comparison ["reader", "opened"] spc) (hk : 3 ≤ kc)
    (hc : ∀ ds M Q E m, n = m + 1 → sp_rd A (fun k => cmpP (primN k)) m ds M Q E → spc ds M Q E) : FnD P w K mg base (kc + 1) A.a_read_primary A.d_read_primary ["reader", "opened"] (sp_rd A primN n) := by
  refine fnD_of T.f_read_primary sc_read_primary (fun ds M Q E ⟨_, _, _, _, _, h, _⟩ => by rw [h]; rfl) (fun cdv A0 outer s H E hr => der_read_primary T (ok_Reader_skip T) (Nat.le_trans (by decide) hk) C (Nat.le_refl _) (ok_Reader_expect T) hk (ok_Reader_peek T) (Nat.le_trans (by decide) hk) (ok_Reader_take T) (Nat.le_trans (by decide) hk) (ok_Reader_take_name T) hk cdv A0 outer s H E hr) ?_
  rintro ds M Q E ⟨r, a, all, ts, k, rfl, kn, n20, R, k1, k2⟩
  show w_read_primary A _ _ _ _ _ _ _ [some (.ob r), some (.int ((20 - k : Nat))), none] M
  unfold w_read_primary
  (repeat (first | walk_at "q" | simp only [QL.D.ob.injEq, exists_and_left, exists_eq_left', MO.ins.injEq, Option.some.injEq, true_and, and_true, onL_same, upm_same, upm_upm, R.i, rdF_m3]))
  have ext : ∀ o, Ext r M (upm M r o) := fun o => (Ext.refl r M).at
  refine ⟨r, a, all, ts, _, _, .y 40, rfl, rfl, R, fun rest h => ?_, fun h => ?_⟩
  · subst h
    have R2 := R.to (us := rest) R.tl.1
    (repeat (first | walk_at "q" | simp only [QL.D.ob.injEq, exists_and_left, exists_eq_left', MO.ins.injEq, Option.some.injEq, true_and, and_true, onL_same, upm_same, upm_upm]))
    refine ⟨rfl, rfl, ?_⟩
    refine ite2 (fun h => ?_) (fun h => ?_)
    · have h : ((20 - k : Nat) : Int) = 20 := by simpa using h
      obtain rfl : k = 0 := by omega
      exact ⟨_, Sub.refl _, k2 rfl _ (ext _)⟩
    · have h : ¬ ((20 - k : Nat) : Int) = 20 := by simpa using h
      obtain ⟨k, rfl⟩ : ∃ j, k = j + 1 := ⟨k - 1, by omega⟩
      obtain ⟨m, rfl⟩ : ∃ j, n = j + 1 := ⟨n - 1, by omega⟩
      have eP : primN (k + 1) (.y 40 :: rest) = match cmpP (primN k) rest with
        | some (e, h, .y d :: r') => if d = 41 then some (e, h, r') else none
        | _ => none := rfl
      have e20 : ((20 - (k + 1) : Nat) : Int) + 1 = ((20 - k : Nat) : Int) := by omega
      rw [e20]
      refine hc _ _ _ _ m rfl ⟨r, a, all, rest, k, rfl, by omega, by omega, R2, fun e h rest2 he hs => ?_, fun hn => ?_⟩
      · have R3 := R2.to hs
        (repeat (first | walk_at "q" | simp only [QL.D.ob.injEq, exists_and_left, exists_eq_left', MO.ins.injEq, Option.some.injEq, true_and, and_true, onL_same, upm_same, upm_upm, R3.i, rdF_m4]))
        refine ⟨r, a, all, rest2, _, _, .y 41, rfl, rfl, by simpa only [upm_upm] using R3, fun rest3 h3 => ?_, fun h3 => ?_⟩
        · subst h3
          (repeat (first | walk_at "q" | simp only [QL.D.ob.injEq, exists_and_left, exists_eq_left', MO.ins.injEq, Option.some.injEq, true_and, and_true, onL_same, upm_same, upm_upm]))
          refine ⟨_, Sub.refl _, k1 e h rest3 ?_ ((List.suffix_cons _ _).trans hs)⟩
          have he : cmpP (primN k) rest = _ := he
          rw [eP, he]; rfl
        · intro M' hM
          refine ⟨M', Sub.refl _, k2 ?_ M' (fun b u n z => hM b u n ((upm_ne n).trans z))⟩
          have he : cmpP (primN k) rest = _ := he
          rw [eP, he]
          cases rest2 with
          | nil => rfl
          | cons t rest3 =>
            cases t with
            | y d =>
              have : ¬ d = 41 := fun z => h3 (by rw [z]; rfl)
              exact if_neg this
            | w v => rfl
            | n m => rfl
      · intro M' hM
        refine ⟨M', Sub.refl _, k2 ?_ M' (fun b u n z => hM b u n ((upm_ne n).trans z))⟩
        have hn : cmpP (primN k) rest = none := hn
        rw [eP, hn]
  · (repeat (first | walk_at "q" | simp only [QL.D.ob.injEq, exists_and_left, exists_eq_left', MO.ins.injEq, Option.some.injEq, true_and, and_true, onL_same, upm_same, upm_upm, R.i, rdF_m1]))
    refine ⟨r, a, all, ts, rfl, R, ?_⟩
    obtain ⟨t2, t3, t4⟩ := tags
    cases ts with
    | nil =>
      simp only [hdD]
      (repeat (first | walk_at "q" | simp only [QL.D.ob.injEq, exists_and_left, exists_eq_left', MO.ins.injEq, Option.some.injEq, true_and, and_true, onL_same, upm_same, upm_upm, R.i, rdF_m5]))
      refine ⟨rfl, rfl, r, a, all, [], rfl, R, fun v rest z _ => (by cases z), fun _ => ?_⟩
      intro M' hM
      exact ⟨M', Sub.refl _, k2 (by cases k <;> rfl) M' hM⟩
    | cons t rest =>
      cases t with
      | n m =>
        simp only [hdD, Tk.D, dN]
        (repeat (first | walk_at "q" | simp only [QL.D.ob.injEq, exists_and_left, exists_eq_left', MO.ins.injEq, Option.some.injEq, true_and, and_true, onL_same, upm_same, upm_upm, R.i, rdF_m2]))
        refine ⟨rfl, rfl, ?_⟩
        try simp only [decide_true, if_true]
        refine ⟨r, a, all, _, rfl, R, fun t rest' z => ?_, fun z => by cases z⟩
        cases z
        simp only [Tk.D, dN]
        (repeat (first | walk_at "q" | simp only [QL.D.ob.injEq, exists_and_left, exists_eq_left', MO.ins.injEq, Option.some.injEq, true_and, and_true, onL_same, upm_same, upm_upm]))
        exact ⟨_, Sub.refl _, k1 (.num m) 1 rest (by cases k <;> rfl) R.tl.1⟩
      | w v =>
        simp only [hdD, Tk.D, dW]
        (repeat (first | walk_at "q" | simp only [QL.D.ob.injEq, exists_and_left, exists_eq_left', MO.ins.injEq, Option.some.injEq, true_and, and_true, onL_same, upm_same, upm_upm, R.i, rdF_m5]))
        refine ⟨rfl, rfl, ?_⟩
        simp only [t2, decide_false, Bool.false_eq_true, if_false]
        refine ⟨r, a, all, _, rfl, R, fun u rest' z hv => ?_, fun z => ?_⟩
        · cases z
          exact ⟨_, Sub.refl _, k1 (.var v) 1 rest (by cases k <;> exact if_pos hv) R.tl.1⟩
        · intro M' hM
          have hv := z v rest rfl
          exact ⟨M', Sub.refl _, k2 (by cases k <;> (show (if isName v = true then _ else _) = _; rw [hv]; rfl)) M' hM⟩
      | y c =>
        have hc : ¬ c = 40 := fun z => h (by rw [z]; rfl)
        simp only [hdD, Tk.D, dY]
        (repeat (first | walk_at "q" | simp only [QL.D.ob.injEq, exists_and_left, exists_eq_left', MO.ins.injEq, Option.some.injEq, true_and, and_true, onL_same, upm_same, upm_upm, R.i, rdF_m5]))
        refine ⟨rfl, rfl, ?_⟩
        simp only [Ne.symm t4, decide_false, Bool.false_eq_true, if_false]
        refine ⟨r, a, all, _, rfl, R, fun u rest' z _ => (by cases z), fun z => ?_⟩
        intro M' hM
        exact ⟨M', Sub.refl _, k2 (by cases k <;> exact if_neg hc) M' hM⟩
end
section
variable {P : Program} {w : World} {K : PySem.W.Frag} {mg : Str → Option Value} {base : Heap} {A : Ads}
theorem rdM_upm {r a : Addr} {all ts : List Tk} {M : Mp} {o : MO} : rdM A r a all ts (upm M r o) = rdM A r a all ts M := upm_upm
theorem ok_read_product (T : Txt w K mg A) {n kc : Nat} (C : FnD P w K mg base kc A.a_read_primary A.d_read_primary ["reader", "opened"] (sp_rd A primN n)) (hk : 3 ≤ kc) :
    FnD P w K mg base (kc + 1) A.a_read_product A.d_read_product ["reader", "opened"] (sp_rd A (fun k => prodP (primN k)) n) := by
  refine fnD_of T.f_read_product sc_read_product (fun ds M Q E ⟨_, _, _, _, _, h, _⟩ => by rw [h]; rfl) (fun cdv A0 outer s H E hr => der_read_product T C (Nat.le_refl _) (ok_Reader_skip T) (Nat.le_trans (by decide) hk) (ok_joined T) (Nat.le_trans (by decide) hk) cdv A0 outer s H E hr) ?_
  rintro ds M Q E ⟨r, a, all, ts, k, rfl, kn, n20, R, k1, k2⟩
  have k1 : ∀ e h rest, prodP (primN k) ts = some (e, h, rest) → rest <:+ all → Q (.tup [Ex.D e, .int (h : Nat)]) (rdM A r a all rest M) := k1
  have k2 : prodP (primN k) ts = none → ErrR A r M E := k2
  show w_read_product A _ _ _ _ [some (.ob r), some (.int ((20 - k : Nat))), none, none, none, none] M
  unfold w_read_product
  (repeat (first | walk_at "q" | simp only [QL.D.ob.injEq, exists_and_left, exists_eq_left', MO.ins.injEq, Option.some.injEq, true_and, and_true, onL_same, upm_same, upm_upm]))
  refine ⟨r, a, all, ts, k, rfl, kn, n20, R, fun e0 h0 rest0 he0 hs0 => ?_, fun hn => ?_⟩
  · (repeat (first | walk_at "q" | simp only [QL.D.ob.injEq, exists_and_left, exists_eq_left', MO.ins.injEq, Option.some.injEq, true_and, and_true, onL_same, upm_same, upm_upm]))
    have ep : prodP (primN k) ts = loopL [42] (primN k) e0 h0 rest0 := by unfold prodP; rw [he0]
    obtain ⟨I, hI⟩ : ∃ I : Nat → QL.Env → Mp → Prop, I = fun m δ M' => ∃ (e : Ex) (h : Nat) (us : List Tk) (x y : Option QL.D), δ = [some (.ob r), some (.int ((20 - k : Nat))), some e.D, some (.int h), x, y] ∧ M' = rdM A r a all us M ∧ us <:+ all ∧ m = us.length ∧ prodP (primN k) ts = loopL [42] (primN k) e h us := ⟨_, rfl⟩
    refine ⟨I, ⟨_, by rw [hI]; exact ⟨e0, h0, rest0, _, _, rfl, rfl, hs0, rfl, ep⟩⟩, ?_⟩
    intro m δ M' hh
    rw [hI] at hh
    obtain ⟨e, h, us, x, y, rfl, rfl, hs, rfl, el⟩ := hh
    have R2 := R.to hs
    (repeat (first | walk_at "q" | simp only [QL.D.ob.injEq, exists_and_left, exists_eq_left', MO.ins.injEq, Option.some.injEq, true_and, and_true, onL_same, upm_same, upm_upm, R2.i, rdF_m3]))
    refine ⟨r, a, all, us, _, _, .y 42, rfl, rfl, R2, fun rest hu => ?_, fun hu => ?_⟩
    · subst hu
      have hs2 := (List.suffix_cons (Tk.y 42) rest).trans hs
      have R3 := R.to hs2
      (repeat (first | walk_at "q" | simp only [QL.D.ob.injEq, exists_and_left, exists_eq_left', MO.ins.injEq, Option.some.injEq, true_and, and_true, onL_same, upm_same, upm_upm]))
      refine ⟨r, a, all, rest, k, rfl, kn, n20, R3, fun e2 h2 rest2 he2 hs3 => ?_, fun hn => ?_⟩
      · (repeat (first | walk_at "q" | simp only [QL.D.ob.injEq, exists_and_left, exists_eq_left', MO.ins.injEq, Option.some.injEq, true_and, and_true, onL_same, upm_same, upm_upm]))
        have he2 : primN k rest = some (e2, h2, rest2) := he2
        rw [loopL_some (primN_shr k) (by decide) he2] at el
        refine ⟨42, _, _, h, h2, rfl, fun hle => ?_, fun hlt => ?_⟩
        · (repeat (first | walk_at "q" | simp only [QL.D.ob.injEq, exists_and_left, exists_eq_left', MO.ins.injEq, Option.some.injEq, true_and, and_true, onL_same, upm_same, upm_upm]))
          have sl := (primN_shr k _ _ _ _ he2).1
          rw [if_neg hle] at el
          refine ⟨rest2.length, by omega, ?_⟩
          rw [hI]
          exact ⟨_, _, rest2, _, _, rfl, rfl, hs3, rfl, el⟩
        · rw [if_pos hlt] at el
          exact ⟨_, Sub.refl _, k2 el _ ((Ext.refl r M).at)⟩
      · have hn : primN k rest = none := hn
        rw [loopL_none (primN_shr k) (by decide) hn] at el
        exact fun M' hM => ⟨M', Sub.refl _, k2 el M' (fun b u n z => hM b u n ((upm_ne n).trans z))⟩
    · (repeat (first | walk_at "q" | simp only [QL.D.ob.injEq, exists_and_left, exists_eq_left', MO.ins.injEq, Option.some.injEq, true_and, and_true, onL_same, upm_same, upm_upm]))
      have : loopL [42] (primN k) e h us = some (e, h, us) := loopL_stop fun c hc hm => by
        obtain rfl : c = 42 := by simpa using hm
        exact hu hc
      exact ⟨_, Sub.refl _, k1 e h us (el.trans this) hs⟩
  · have hn : primN k ts = none := hn
    have e : prodP (primN k) ts = none := by unfold prodP; rw [hn]
    exact fun M' hM => ⟨M', Sub.refl _, k2 e M' hM⟩
theorem ok_read_sum (T : Txt w K mg A) {n kc : Nat} (C : FnD P w K mg base kc A.a_read_product A.d_read_product ["reader", "opened"] (sp_rd A (fun k => prodP (primN k)) n)) (hk : 3 ≤ kc) :
    FnD P w K mg base (kc + 1) A.a_read_sum A.d_read_sum ["reader", "opened"] (sp_rd A (fun k => sumP (primN k)) n) := by
  refine fnD_of T.f_read_sum sc_read_sum (fun ds M Q E ⟨_, _, _, _, _, h, _⟩ => by rw [h]; rfl) (fun cdv A0 outer s H E hr => der_read_sum T C (Nat.le_refl _) (ok_Reader_peek T) (Nat.le_trans (by decide) hk) (ok_Reader_take T) (Nat.le_trans (by decide) hk) (ok_joined T) (Nat.le_trans (by decide) hk) cdv A0 outer s H E hr) ?_
  rintro ds M Q E ⟨r, a, all, ts, k, rfl, kn, n20, R, k1, k2⟩
  have k1 : ∀ e h rest, sumP (primN k) ts = some (e, h, rest) → rest <:+ all → Q (.tup [Ex.D e, .int (h : Nat)]) (rdM A r a all rest M) := k1
  have k2 : sumP (primN k) ts = none → ErrR A r M E := k2
  have shr := prodP_shr (primN_shr k)
  show w_read_sum A _ _ _ _ _ [some (.ob r), some (.int ((20 - k : Nat))), none, none, none, none, none] M
  unfold w_read_sum
  (repeat (first | walk_at "q" | simp only [QL.D.ob.injEq, exists_and_left, exists_eq_left', MO.ins.injEq, Option.some.injEq, true_and, and_true, onL_same, upm_same, upm_upm]))
  refine ⟨r, a, all, ts, k, rfl, kn, n20, R, fun e0 h0 rest0 he0 hs0 => ?_, fun hn => ?_⟩
  · (repeat (first | walk_at "q" | simp only [QL.D.ob.injEq, exists_and_left, exists_eq_left', MO.ins.injEq, Option.some.injEq, true_and, and_true, onL_same, upm_same, upm_upm]))
    have he0 : prodP (primN k) ts = some (e0, h0, rest0) := he0
    have ep : sumP (primN k) ts = loopL [43, 45] (prodP (primN k)) e0 h0 rest0 := by unfold sumP; rw [he0]
    obtain ⟨I, hI⟩ : ∃ I : Nat → QL.Env → Mp → Prop, I = fun m δ M' => ∃ (e : Ex) (h : Nat) (us : List Tk) (x y z : Option QL.D), δ = [some (.ob r), some (.int ((20 - k : Nat))), some e.D, some (.int h), x, y, z] ∧ M' = rdM A r a all us M ∧ us <:+ all ∧ m = us.length ∧ sumP (primN k) ts = loopL [43, 45] (prodP (primN k)) e h us := ⟨_, rfl⟩
    refine ⟨I, ⟨_, by rw [hI]; exact ⟨e0, h0, rest0, _, _, _, rfl, rfl, hs0, rfl, ep⟩⟩, ?_⟩
    intro m δ M' hh
    rw [hI] at hh
    obtain ⟨e, h, us, x, y, z, rfl, rfl, hs, rfl, el⟩ := hh
    have R2 := R.to hs
    (repeat (first | walk_at "q" | simp only [QL.D.ob.injEq, exists_and_left, exists_eq_left', MO.ins.injEq, Option.some.injEq, true_and, and_true, onL_same, upm_same, upm_upm, R2.i, rdF_m1]))
    refine ⟨r, a, all, us, rfl, R2, ?_⟩
    (repeat (first | walk_at "q" | simp only [QL.D.ob.injEq, exists_and_left, exists_eq_left', MO.ins.injEq, Option.some.injEq, true_and, and_true, onL_same, upm_same, upm_upm]))
    refine ⟨okN_hd us, rfl, ?_⟩
    refine ite2 (fun hu => ?_) (fun hu => ?_)
    · obtain ⟨c, rest, rfl, hc⟩ := (any_hd us 43 45).mp hu
      have cin : c ∈ [43, 45] := by rcases hc with rfl | rfl <;> decide
      have hs2 := (List.suffix_cons (Tk.y c) rest).trans hs
      have R3 := R.to hs2
      (repeat (first | walk_at "q" | simp only [QL.D.ob.injEq, exists_and_left, exists_eq_left', MO.ins.injEq, Option.some.injEq, true_and, and_true, onL_same, upm_same, upm_upm, R2.i, rdF_m2]))
      refine ⟨r, a, all, _, rfl, R2, fun t rest' z => ?_, fun z => (by cases z)⟩
      cases z
      simp only [Tk.D, dY]
      (repeat (first | walk_at "q" | simp only [QL.D.ob.injEq, exists_and_left, exists_eq_left', MO.ins.injEq, Option.some.injEq, true_and, and_true, onL_same, upm_same, upm_upm]))
      refine ⟨r, a, all, rest, k, rfl, kn, n20, R3, fun e2 h2 rest2 he2 hs3 => ?_, fun hn => ?_⟩
      · (repeat (first | walk_at "q" | simp only [QL.D.ob.injEq, exists_and_left, exists_eq_left', MO.ins.injEq, Option.some.injEq, true_and, and_true, onL_same, upm_same, upm_upm]))
        have he2 : prodP (primN k) rest = some (e2, h2, rest2) := he2
        rw [loopL_some shr cin he2] at el
        refine ⟨c, _, _, h, h2, rfl, fun hle => ?_, fun hlt => ?_⟩
        · (repeat (first | walk_at "q" | simp only [QL.D.ob.injEq, exists_and_left, exists_eq_left', MO.ins.injEq, Option.some.injEq, true_and, and_true, onL_same, upm_same, upm_upm]))
          have sl := (shr _ _ _ _ he2).1
          rw [if_neg hle] at el
          refine ⟨rest2.length, by omega, ?_⟩
          rw [hI]
          exact ⟨_, _, rest2, _, _, _, rfl, rfl, hs3, rfl, el⟩
        · rw [if_pos hlt] at el
          exact ⟨_, Sub.refl _, k2 el _ ((Ext.refl r M).at)⟩
      · have hn : prodP (primN k) rest = none := hn
        rw [loopL_none shr cin hn] at el
        exact fun M' hM => ⟨M', Sub.refl _, k2 el M' (fun b u n z => hM b u n ((upm_ne n).trans z))⟩
    · have : loopL [43, 45] (prodP (primN k)) e h us = some (e, h, us) := loopL_stop fun c hc hm => by
        refine hu ((any_hd us 43 45).mpr ?_)
        cases us with
        | nil => cases hc
        | cons t rest => cases hc; exact ⟨c, rest, rfl, by simpa using hm⟩
      exact ⟨_, Sub.refl _, k1 e h us (el.trans this) hs⟩
  · have hn : prodP (primN k) ts = none := hn
    have e : sumP (primN k) ts = none := by unfold sumP; rw [hn]
    exact fun M' hM => ⟨M', Sub.refl _, k2 e M' hM⟩
theorem ok_read_comparison1 (T : Txt w K mg A) {n kc : Nat} (C : FnD P w K mg base kc A.a_read_sum A.d_read_sum ["reader", "opened"] (sp_rd A (fun k => sumP (primN k)) n)) (hk : 3 ≤ kc) :
    FnD P w K mg base (kc + 1) A.a_read_comparison A.d_read_comparison ["reader", "opened"] (sp_rd A (fun k => cmpP (primN k)) n) := by
  refine fnD_of T.f_read_comparison sc_read_comparison (fun ds M Q E ⟨_, _, _, _, _, h, _⟩ => by rw [h]; rfl) (fun cdv A0 outer s H E hr => der_read_comparison T C (Nat.le_refl _) (ok_Reader_peek T) (Nat.le_trans (by decide) hk) (ok_Reader_take T) (Nat.le_trans (by decide) hk) (ok_joined T) (Nat.le_trans (by decide) hk) cdv A0 outer s H E hr) ?_
  rintro ds M Q E ⟨r, a, all, ts, k, rfl, kn, n20, R, k1, k2⟩
  have k1 : ∀ e h rest, cmpP (primN k) ts = some (e, h, rest) → rest <:+ all → Q (.tup [Ex.D e, .int (h : Nat)]) (rdM A r a all rest M) := k1
  have k2 : cmpP (primN k) ts = none → ErrR A r M E := k2
  show w_read_comparison A _ _ _ _ _ [some (.ob r), some (.int ((20 - k : Nat))), none, none, none, none, none] M
  unfold w_read_comparison
  (repeat (first | walk_at "q" | simp only [QL.D.ob.injEq, exists_and_left, exists_eq_left', MO.ins.injEq, Option.some.injEq, true_and, and_true, onL_same, upm_same, upm_upm]))
  refine ⟨r, a, all, ts, k, rfl, kn, n20, R, fun e h us he hs => ?_, fun hn => ?_⟩
  · (repeat (first | walk_at "q" | simp only [QL.D.ob.injEq, exists_and_left, exists_eq_left', MO.ins.injEq, Option.some.injEq, true_and, and_true, onL_same, upm_same, upm_upm]))
    have he : sumP (primN k) ts = some (e, h, us) := he
    have R2 := R.to hs
    (repeat (first | walk_at "q" | simp only [QL.D.ob.injEq, exists_and_left, exists_eq_left', MO.ins.injEq, Option.some.injEq, true_and, and_true, onL_same, upm_same, upm_upm, R2.i, rdF_m1]))
    refine ⟨r, a, all, us, rfl, R2, ?_⟩
    (repeat (first | walk_at "q" | simp only [QL.D.ob.injEq, exists_and_left, exists_eq_left', MO.ins.injEq, Option.some.injEq, true_and, and_true, onL_same, upm_same, upm_upm]))
    refine ⟨okN_hd us, rfl, ?_⟩
    refine ite2 (fun hu => ?_) (fun hu => ?_)
    · obtain ⟨c, rest, rfl, hc⟩ := (any_hd us 61 60).mp hu
      have hs2 := (List.suffix_cons (Tk.y c) rest).trans hs
      have R3 := R.to hs2
      have ec : cmpP (primN k) ts = match sumP (primN k) rest with
        | none => none
        | some (e2, h2, r2) => if 20 < 1 + max h h2 then none else some (.bin c e e2, 1 + max h h2, r2) := by
        unfold cmpP
        rw [he]
        exact if_pos hc
      (repeat (first | walk_at "q" | simp only [QL.D.ob.injEq, exists_and_left, exists_eq_left', MO.ins.injEq, Option.some.injEq, true_and, and_true, onL_same, upm_same, upm_upm, R2.i, rdF_m2]))
      refine ⟨r, a, all, _, rfl, R2, fun t rest' z => ?_, fun z => (by cases z)⟩
      cases z
      simp only [Tk.D, dY]
      (repeat (first | walk_at "q" | simp only [QL.D.ob.injEq, exists_and_left, exists_eq_left', MO.ins.injEq, Option.some.injEq, true_and, and_true, onL_same, upm_same, upm_upm]))
      refine ⟨r, a, all, rest, k, rfl, kn, n20, R3, fun e2 h2 rest2 he2 hs3 => ?_, fun hn => ?_⟩
      · (repeat (first | walk_at "q" | simp only [QL.D.ob.injEq, exists_and_left, exists_eq_left', MO.ins.injEq, Option.some.injEq, true_and, and_true, onL_same, upm_same, upm_upm]))
        have he2 : sumP (primN k) rest = some (e2, h2, rest2) := he2
        have ec : cmpP (primN k) ts = if 20 < 1 + max h h2 then none else some (.bin c e e2, 1 + max h h2, rest2) := by rw [ec, he2]
        refine ⟨c, _, _, h, h2, rfl, fun hle => ?_, fun hlt => ?_⟩
        · rw [if_neg hle] at ec
          exact ⟨_, Sub.refl _, k1 _ _ _ ec hs3⟩
        · rw [if_pos hlt] at ec
          exact ⟨_, Sub.refl _, k2 ec _ ((Ext.refl r M).at)⟩
      · have hn : sumP (primN k) rest = none := hn
        have ec : cmpP (primN k) ts = none := by rw [ec, hn]
        exact fun M' hM => ⟨M', Sub.refl _, k2 ec M' (fun b u n z => hM b u n ((upm_ne n).trans z))⟩
    · have : cmpP (primN k) ts = some (e, h, us) := by
        unfold cmpP
        rw [he]
        cases us with
        | nil => rfl
        | cons t rest =>
          cases t with
          | y c => exact if_neg fun z => hu ((any_hd _ 61 60).mpr ⟨c, rest, rfl, z⟩)
          | w v => rfl
          | n m => rfl
      exact ⟨_, Sub.refl _, k1 e h us this hs⟩
  · have hn : sumP (primN k) ts = none := hn
    have e : cmpP (primN k) ts = none := by unfold cmpP; rw [hn]
    exact fun M' hM => ⟨M', Sub.refl _, k2 e M' hM⟩
theorem ok_reads (T : Txt w K mg A) : ∀ n : Nat, FnD P w K mg base (4 * n + 7) A.a_read_comparison A.d_read_comparison ["reader", "opened"] (sp_rd A (fun k => cmpP (primN k)) n)
  | 0 => ok_read_comparison1 T (ok_read_sum T (ok_read_product T (ok_read_primary T (kc := 3) FnD.none (by decide) (fun _ _ _ _ m h _ => by omega)) (by decide)) (by decide)) (by decide)
  | n + 1 => by
    have C := ok_reads T n
    have := ok_read_comparison1 T (ok_read_sum T (ok_read_product T (ok_read_primary T C (n := n + 1) (by omega) (fun ds M Q E m h z => by
      obtain rfl : n = m := by omega
      exact z)) (by omega)) (by omega)) (by omega)
    exact this
def sp_read_expression (A : Ads) : SpD := fun ds M Q E => ∃ (r a : Addr) (all ts : List Tk), ds = [.ob r] ∧ Rdr A r a all ts M ∧
  (∀ e h rest, cmpP (primN 20) ts = some (e, h, rest) → rest <:+ all → Q e.D (rdM A r a all rest M)) ∧ (cmpP (primN 20) ts = none → ErrR A r M E)
theorem ok_read_expression (T : Txt w K mg A) : FnD P w K mg base 88 A.a_read_expression A.d_read_expression ["reader"] (sp_read_expression A) := by
  refine fnD_of T.f_read_expression sc_read_expression (fun ds M Q E ⟨_, _, _, _, h, _⟩ => by rw [h]; rfl) (fun cdv A0 outer s H E hr => der_read_expression T (ok_reads T 20) (Nat.le_refl _) cdv A0 outer s H E hr) ?_
  rintro ds M Q E ⟨r, a, all, ts, rfl, R, k1, k2⟩
  show w_read_expression A _ _ [some (.ob r)] M
  unfold w_read_expression
  (repeat (first | walk_at "q" | simp only [QL.D.ob.injEq, exists_and_left, exists_eq_left', MO.ins.injEq, Option.some.injEq, true_and, and_true, onL_same, upm_same, upm_upm]))
  refine ⟨r, a, all, ts, 20, rfl, by decide, by decide, R, fun e h rest he hs => ?_, fun hn M' hM => ⟨M', Sub.refl _, k2 hn M' hM⟩⟩
  (repeat (first | walk_at "q" | simp only [QL.D.ob.injEq, exists_and_left, exists_eq_left', MO.ins.injEq, Option.some.injEq, true_and, and_true, onL_same, upm_same, upm_upm]))
  exact ⟨_, Sub.refl _, k1 e h rest he hs⟩
end
section
variable {P : Program} {w : World} {K : PySem.W.Frag} {mg : Str → Option Value} {base : Heap} {A : Ads}
def sp_text_at (n : Nat) : SpD := fun ds M Q _ => ∃ (e : Ex) (lv : Nat), ds = [e.D, .int lv] ∧ e.ht ≤ n ∧ n ≤ 20 ∧ ExOk e ∧ Q (.str (txt lv e)) M
theorem ok_text_at1 (T : Txt w K mg A) {n kc : Nat} {spc : SpD} (C : FnD P w K mg base kc A.a_text_at A.d_text_at ["expression", "level"] spc) (hc : ∀ m ds M Q E, n = m + 1 → sp_text_at m ds M Q E → spc ds M Q E) :
    FnD P w K mg base (kc + 1) A.a_text_at A.d_text_at ["expression", "level"] (sp_text_at n) := by
  refine fnD_of T.f_text_at sc_text_at (fun ds M Q E ⟨_, _, h, _⟩ => by rw [h]; rfl) (fun cdv A0 outer s H E hr => der_text_at T C (Nat.le_refl _) cdv A0 outer s H E hr) ?_
  rintro ds M Q E ⟨e, lv, rfl, hn, n20, he, k⟩
  show w_text_at A _ _ [some e.D, some (.int lv), none, none, none, none, none, none] M
  unfold w_text_at
  have eL : d_LEVELS = LVS := rfl
  cases e with
  | num m =>
    simp only [Ex.D]
    (repeat (first | walk_at "q" | simp only [QL.D.ob.injEq, exists_and_left, exists_eq_left', MO.ins.injEq, Option.some.injEq, true_and, and_true, onL_same, upm_same, upm_upm, any_nv]))
    refine ⟨rfl, rfl, Nat.lt_of_le_of_lt (show ((m : Nat) : Int).natAbs ≤ 1000000 by rw [Int.natAbs_natCast]; exact he) (Nat.lt_of_lt_of_le (show 1000000 < 2 ^ 20 by decide) (Nat.pow_le_pow_right (by decide) (by decide))), M, Sub.refl _, ?_⟩
    rw [tx_num]; exact k
  | var v =>
    have t0 : (decide (tx "variable" = tx "number") || decide (tx "variable" = tx "variable")) = true := by decide
    simp only [Ex.D]
    (repeat (first | walk_at "q" | simp only [QL.D.ob.injEq, exists_and_left, exists_eq_left', MO.ins.injEq, Option.some.injEq, true_and, and_true, onL_same, upm_same, upm_upm, any_nv, t0]))
    exact ⟨rfl, rfl, M, Sub.refl _, k⟩
  | bin c a b =>
    have hn : 1 + max a.ht b.ht ≤ n := hn
    obtain ⟨m, rfl⟩ : ∃ m, n = m + 1 := ⟨n - 1, by omega⟩
    simp only [Ex.D]
    (repeat (first | walk_at "q" | simp only [QL.D.ob.injEq, exists_and_left, exists_eq_left', MO.ins.injEq, Option.some.injEq, true_and, and_true, onL_same, upm_same, upm_upm, any_nv, tag1]))
    refine ⟨rfl, rfl, ?_⟩
    rw [eL]
    (repeat (first | walk_at "q" | simp only [QL.D.ob.injEq, exists_and_left, exists_eq_left', MO.ins.injEq, Option.some.injEq, true_and, and_true, onL_same, upm_same, upm_upm, lvs_op he.1]))
    have la := txt_len a (max (lev c) 1) he.2.1
    have lb := txt_len b (lev c + 1) he.2.2
    have pa : 2 ^ a.ht ≤ 2 ^ 19 := Nat.pow_le_pow_right (by decide) (by omega)
    have pb : 2 ^ b.ht ≤ 2 ^ 19 := Nat.pow_le_pow_right (by decide) (by omega)
    have esp : tx " " = [32] := rfl
    have eo : tx "(" = [40] := rfl
    have ec : tx ")" = [41] := rfl
    rw [esp, eo, ec]
    refine ⟨rfl, rfl, ite2 (fun h => hc m _ _ _ _ rfl ⟨a, max (lev c) 1, ?_, by omega, by omega, he.2.1, ?_⟩) (fun h => hc m _ _ _ _ rfl ⟨a, max (lev c) 1, ?_, by omega, by omega, he.2.1, ?_⟩)⟩
    · rw [show max (lev c) 1 = 1 by omega]; rfl
    · (repeat (first | walk_at "q" | simp only [QL.D.ob.injEq, exists_and_left, exists_eq_left', MO.ins.injEq, Option.some.injEq, true_and, and_true, onL_same, upm_same, upm_upm, List.nil_append]))
      rw [line_eq]
      refine ⟨by omega, by omega, by rw [List.length_append]; show _ + 1 ≤ _; omega, by decide, by rw [List.length_append, List.length_append]; show _ + 1 + 1 ≤ _; omega, by rw [List.length_append, List.length_append, List.length_append]; show _ + 1 + 1 + 1 ≤ _; omega, ?_⟩
      have e2 : ((lev c : Nat) : Int) + 1 = ((lev c + 1 : Nat) : Int) := by omega
      rw [e2]
      refine hc m _ _ _ _ rfl ⟨b, _, rfl, by omega, by omega, he.2.2, ?_⟩
      (repeat (first | walk_at "q" | simp only [QL.D.ob.injEq, exists_and_left, exists_eq_left', MO.ins.injEq, Option.some.injEq, true_and, and_true, onL_same, upm_same, upm_upm, List.nil_append]))
      rw [line_eq]
      have et : txt lv (.bin c a b) = par (decide (lev c < lv)) (txt (max (lev c) 1) a ++ 32 :: c :: 32 :: txt (lev c + 1) b) := rfl
      have ej : txt (max (lev c) 1) a ++ [32] ++ [c] ++ [32] ++ txt (lev c + 1) b = txt (max (lev c) 1) a ++ 32 :: c :: 32 :: txt (lev c + 1) b := by simp
      rw [et] at k
      rw [ej]
      refine ⟨by omega, by simp; omega, ite2 (fun h => ?_) (fun h => ?_)⟩
      · rw [decide_eq_true (show lev c < lv by omega)] at k
        exact ⟨by simp; omega, by simp; omega, M, Sub.refl _, k⟩
      · rw [decide_eq_false (show ¬ lev c < lv by omega)] at k
        exact ⟨M, Sub.refl _, k⟩
    · rw [show max (lev c) 1 = lev c by omega]
    · (repeat (first | walk_at "q" | simp only [QL.D.ob.injEq, exists_and_left, exists_eq_left', MO.ins.injEq, Option.some.injEq, true_and, and_true, onL_same, upm_same, upm_upm, List.nil_append]))
      rw [line_eq]
      refine ⟨by omega, by omega, by rw [List.length_append]; show _ + 1 ≤ _; omega, by decide, by rw [List.length_append, List.length_append]; show _ + 1 + 1 ≤ _; omega, by rw [List.length_append, List.length_append, List.length_append]; show _ + 1 + 1 + 1 ≤ _; omega, ?_⟩
      have e2 : ((lev c : Nat) : Int) + 1 = ((lev c + 1 : Nat) : Int) := by omega
      rw [e2]
      refine hc m _ _ _ _ rfl ⟨b, _, rfl, by omega, by omega, he.2.2, ?_⟩
      (repeat (first | walk_at "q" | simp only [QL.D.ob.injEq, exists_and_left, exists_eq_left', MO.ins.injEq, Option.some.injEq, true_and, and_true, onL_same, upm_same, upm_upm, List.nil_append]))
      rw [line_eq]
      have et : txt lv (.bin c a b) = par (decide (lev c < lv)) (txt (max (lev c) 1) a ++ 32 :: c :: 32 :: txt (lev c + 1) b) := rfl
      have ej : txt (max (lev c) 1) a ++ [32] ++ [c] ++ [32] ++ txt (lev c + 1) b = txt (max (lev c) 1) a ++ 32 :: c :: 32 :: txt (lev c + 1) b := by simp
      rw [et] at k
      rw [ej]
      refine ⟨by omega, by simp; omega, ite2 (fun h => ?_) (fun h => ?_)⟩
      · rw [decide_eq_true (show lev c < lv by omega)] at k
        exact ⟨by simp; omega, by simp; omega, M, Sub.refl _, k⟩
      · rw [decide_eq_false (show ¬ lev c < lv by omega)] at k
        exact ⟨M, Sub.refl _, k⟩
theorem ok_text_at (T : Txt w K mg A) : ∀ n : Nat, FnD P w K mg base (n + 1) A.a_text_at A.d_text_at ["expression", "level"] (sp_text_at n)
  | 0 => ok_text_at1 T (kc := 0) FnD.none fun m _ _ _ _ h _ => by omega
  | n + 1 => ok_text_at1 T (kc := n + 1) (ok_text_at T n) fun m ds M Q E h z => by
    obtain rfl : n = m := by omega
    exact z
def sp_expression_text : SpD := fun ds M Q _ => ∃ e : Ex, ds = [e.D] ∧ e.ht ≤ 20 ∧ ExOk e ∧ Q (.str (txt 0 e)) M
theorem ok_expression_text (T : Txt w K mg A) : FnD P w K mg base 22 A.a_expression_text A.d_expression_text ["expression"] sp_expression_text := by
  refine fnD_of T.f_expression_text sc_expression_text (fun ds M Q E ⟨_, h, _⟩ => by rw [h]; rfl) (fun cdv A0 outer s H E hr => der_expression_text T (ok_text_at T 20) (Nat.le_refl _) cdv A0 outer s H E hr) ?_
  rintro ds M Q E ⟨e, rfl, h20, he, k⟩
  show w_expression_text A _ _ [some e.D] M
  unfold w_expression_text
  (repeat (first | walk_at "q" | simp only [QL.D.ob.injEq, exists_and_left, exists_eq_left', MO.ins.injEq, Option.some.injEq, true_and, and_true, onL_same, upm_same, upm_upm]))
  exact ⟨e, 0, rfl, h20, Nat.le_refl _, he, M, Sub.refl _, k⟩
end
section
variable {P : Program} {w : World} {K : PySem.W.Frag} {mg : Str → Option Value} {base : Heap} {A : Ads}
theorem rdF_m7 {a : Addr} {p : Nat} : (rdF a p).lookup ("take_label" : Str) = none := rfl
def sp_is_label : SpD := fun ds M Q _ => ∃ v : Tx, ds = [.str v] ∧ v.length ≤ 1000000 ∧ Q (.bl (isLabel v)) M
theorem ok_is_label (T : Txt w K mg A) : FnD P w K mg base 2 A.a_is_label A.d_is_label ["word"] sp_is_label := by
  refine fnD_of T.f_is_label sc_is_label (fun ds M Q E ⟨_, h, _⟩ => by rw [h]; rfl) (fun cdv A0 outer s H E hr => der_is_label T (ok_is_name T) (by decide) cdv A0 outer s H E hr) ?_
  rintro ds M Q E ⟨v, rfl, hl, k⟩
  show w_is_label A _ _ [some (.str v)] M
  unfold w_is_label
  have e46 : tx "." = [46] := rfl
  (repeat (first | walk_at "q" | simp only [QL.D.ob.injEq, exists_and_left, exists_eq_left', MO.ins.injEq, Option.some.injEq, true_and, and_true, onL_same, upm_same, upm_upm, e46, e_split]))
  obtain ⟨ps, hp⟩ := splitT_hd 46 v
  refine ⟨by decide, by rw [sizeLine_eq]; omega, splitT 46 v, splitT_ne 46 v, fun p h => splitT_no h, (splitT_join 46 v).symm, fun l hl => ?_⟩
  (repeat (first | walk_at "q" | simp only [QL.D.ob.injEq, exists_and_left, exists_eq_left', MO.ins.injEq, Option.some.injEq, true_and, and_true, onL_same, upm_same, upm_upm, hp, List.map_cons]))
  exact ⟨_, rfl, M, Sub.new hl (Sub.refl _), k⟩
def sp_Reader_take_label (A : Ads) : SpD := fun ds M Q E => ∃ (r a : Addr) (all ts : List Tk), ds = [.ob r] ∧ Rdr A r a all ts M ∧ (∀ v rest, ts = .w v :: rest → isLabel v = true → Q (.str v) (rdM A r a all rest M)) ∧ ((∀ v rest, ts = .w v :: rest → isLabel v = false) → ErrR A r M E)
theorem ok_Reader_take_label (T : Txt w K mg A) : FnD P w K mg base 3 A.a_Reader_take_label A.d_Reader_take_label ["self"] (sp_Reader_take_label A) := by
  refine fnD_of T.f_Reader_take_label sc_Reader_take_label (fun ds M Q E ⟨_, _, _, _, h, _⟩ => by rw [h]; rfl) (fun cdv A0 outer s H E hr => der_Reader_take_label T (ok_Reader_take T) (Nat.le_refl _) (ok_is_label T) (by decide) cdv A0 outer s H E hr) ?_
  rintro ds M Q E ⟨r, a, all, ts, rfl, R, k1, k2⟩
  show w_Reader_take_label A _ _ _ [some (.ob r), none, none] M
  unfold w_Reader_take_label
  (repeat (first | walk_at "q" | simp only [QL.D.ob.injEq, exists_and_left, exists_eq_left', MO.ins.injEq, Option.some.injEq, true_and, and_true, onL_same, upm_same, upm_upm, R.i, rdF_m2]))
  refine ⟨r, a, all, ts, rfl, R, fun t rest h => ?_, fun h => ?_⟩
  · subst h
    have ext : ∀ o, Ext r M (upm M r o) := fun o => (Ext.refl r M).at
    obtain ⟨t2, t3, t4⟩ := tags
    cases t with
    | w v =>
      simp only [Tk.D, dW]
      (repeat (first | walk_at "q" | simp only [QL.D.ob.injEq, exists_and_left, exists_eq_left', MO.ins.injEq, Option.some.injEq, true_and, and_true, onL_same, upm_same, upm_upm]))
      refine ⟨rfl, rfl, ?_⟩
      simp only [Bool.not_eq_true', decide_true, Bool.false_eq_true, if_false, reduceCtorEq, Bool.true_eq_false]
      refine ⟨v, rfl, R.hd, ?_⟩
      (repeat (first | walk_at "q" | simp only [QL.D.ob.injEq, exists_and_left, exists_eq_left', MO.ins.injEq, Option.some.injEq, true_and, and_true, onL_same, upm_same, upm_upm]))
      cases hv : isLabel v with
      | true =>
        (repeat (first | walk_at "q" | simp only [QL.D.ob.injEq, exists_and_left, exists_eq_left', MO.ins.injEq, Option.some.injEq, true_and, and_true, onL_same, upm_same, upm_upm]))
        exact ⟨_, Sub.refl _, k1 v rest rfl hv⟩
      | false =>
        (repeat (first | walk_at "q" | simp only [QL.D.ob.injEq, exists_and_left, exists_eq_left', MO.ins.injEq, Option.some.injEq, true_and, and_true, onL_same, upm_same, upm_upm]))
        exact ⟨_, Sub.refl _, k2 (fun u r' e => by cases e; exact hv) _ (ext _)⟩
    | n n =>
      simp only [Tk.D, dN]
      (repeat (first | walk_at "q" | simp only [QL.D.ob.injEq, exists_and_left, exists_eq_left', MO.ins.injEq, Option.some.injEq, true_and, and_true, onL_same, upm_same, upm_upm]))
      refine ⟨rfl, rfl, ?_⟩
      simp only [Ne.symm t2, decide_false, Bool.not_false, if_true]
      (repeat (first | walk_at "q" | simp only [QL.D.ob.injEq, exists_and_left, exists_eq_left', MO.ins.injEq, Option.some.injEq, true_and, and_true, onL_same, upm_same, upm_upm]))
      exact ⟨_, Sub.refl _, k2 (fun u r' e => by cases e) _ (ext _)⟩
    | y c =>
      simp only [Tk.D, dY]
      (repeat (first | walk_at "q" | simp only [QL.D.ob.injEq, exists_and_left, exists_eq_left', MO.ins.injEq, Option.some.injEq, true_and, and_true, onL_same, upm_same, upm_upm]))
      refine ⟨rfl, rfl, ?_⟩
      simp only [Ne.symm t3, decide_false, Bool.not_false, if_true]
      (repeat (first | walk_at "q" | simp only [QL.D.ob.injEq, exists_and_left, exists_eq_left', MO.ins.injEq, Option.some.injEq, true_and, and_true, onL_same, upm_same, upm_upm]))
      exact ⟨_, Sub.refl _, k2 (fun u r' e => by cases e) _ (ext _)⟩
  · subst h
    have ext : ∀ o, Ext r M (upm M r o) := fun o => (Ext.refl r M).at
    (repeat (first | walk_at "q" | simp only [QL.D.ob.injEq, exists_and_left, exists_eq_left', MO.ins.injEq, Option.some.injEq, true_and, and_true, onL_same, upm_same, upm_upm]))
    exact ⟨rfl, rfl, _, Sub.refl _, k2 (fun u r' e => by cases e) _ (ext _)⟩
/-- read_expression, by exprP -/
theorem rx_ok {r a : Addr} {all ts : List Tk} {M : Mp} {Q : KD} {E : XKD} (R : Rdr A r a all ts M) (k1 : ∀ e rest, exprP ts = some (e, rest) → rest <:+ all → Q e.D (rdM A r a all rest M)) (k2 : exprP ts = none → ErrR A r M E) : sp_read_expression A [.ob r] M Q E := by
  refine ⟨r, a, all, ts, rfl, R, fun e h rest he hs => k1 e rest ?_ hs, fun hn => k2 ?_⟩
  · unfold exprP; rw [he]; rfl
  · unfold exprP; rw [hn]; rfl
theorem skip_ok {r a : Addr} {all ts : List Tk} {kd vl : QL.D} {M : Mp} {Q : KD} {E : XKD} (t : Tk) (ht : t.D = .tup [kd, vl]) (R : Rdr A r a all ts M) (k1 : ts.head? = some t → Q (.bl true) (rdM A r a all ts.tail M)) (k2 : ts.head? ≠ some t → Q (.bl false) M) : sp_Reader_skip A [.ob r, kd, vl] M Q E :=
  ⟨r, a, all, ts, kd, vl, t, rfl, ht, R, fun rest h => by subst h; exact k1 rfl, k2⟩
theorem exp_ok {r a : Addr} {all ts : List Tk} {kd vl : QL.D} {M : Mp} {Q : KD} {E : XKD} (t : Tk) (ht : t.D = .tup [kd, vl]) (R : Rdr A r a all ts M) (k1 : ∀ rest, expP t ts = some rest → Q .non (rdM A r a all rest M)) (k2 : expP t ts = none → ErrR A r M E) : sp_Reader_expect A [.ob r, kd, vl] M Q E := by
  refine ⟨r, a, all, ts, kd, vl, t, rfl, ht, R, fun rest h => k1 rest ?_, fun h => k2 ?_⟩
  · subst h; exact if_pos rfl
  · cases ts with
    | nil => rfl
    | cons u rest => exact if_neg fun z => h (by rw [z]; rfl)
theorem nam_ok {r a : Addr} {all ts : List Tk} {M : Mp} {Q : KD} {E : XKD} (R : Rdr A r a all ts M) (k1 : ∀ v rest, namP ts = some (v, rest) → Q (.str v) (rdM A r a all rest M)) (k2 : namP ts = none → ErrR A r M E) : sp_Reader_take_name A [.ob r] M Q E := by
  refine ⟨r, a, all, ts, rfl, R, fun v rest h hv => k1 v rest ?_, fun h => k2 ?_⟩
  · subst h; exact if_pos hv
  · cases ts with
    | nil => rfl
    | cons u rest => cases u with
      | w v =>
        show (if isName v = true then _ else _) = _
        rw [h v rest rfl]; rfl
      | n _ => rfl
      | y _ => rfl
theorem lbl_ok {r a : Addr} {all ts : List Tk} {M : Mp} {Q : KD} {E : XKD} (R : Rdr A r a all ts M) (k1 : ∀ v rest, lblP ts = some (v, rest) → Q (.str v) (rdM A r a all rest M)) (k2 : lblP ts = none → ErrR A r M E) : sp_Reader_take_label A [.ob r] M Q E := by
  refine ⟨r, a, all, ts, rfl, R, fun v rest h hv => k1 v rest ?_, fun h => k2 ?_⟩
  · subst h; exact if_pos hv
  · cases ts with
    | nil => rfl
    | cons u rest => cases u with
      | w v =>
        show (if isLabel v = true then _ else _) = _
        rw [h v rest rfl]; rfl
      | n _ => rfl
      | y _ => rfl
theorem ErrR.after {r a : Addr} {all ts : List Tk} {M : Mp} {E : XKD} (h : ErrR A r M E) : ErrR A r (rdM A r a all ts M) E := h.at_ _
theorem namP_suf {ts r : List Tk} {v : Tx} (h : namP ts = some (v, r)) : ts = .w v :: r := by
  unfold namP at h
  split at h
  · split at h
    · cases h; rfl
    · cases h
  · cases h
theorem Rdr.suf {r a : Addr} {all ts us : List Tk} {t : Tk} {M : Mp} (h : Rdr A r a all ts M) (e : ts = t :: us) : us <:+ all := by
  subst e; exact h.tl.1
theorem Rdr.to2 {r a : Addr} {all ts us vs : List Tk} {M : Mp} (h : Rdr A r a all ts (rdM A r a all vs M)) (k : us <:+ all) : Rdr A r a all us (rdM A r a all us M) := by
  have := h.to k
  simpa only [upm_upm] using this
def sp_read_deed (A : Ads) : SpD := fun ds M Q E => ∃ (r a : Addr) (all ts : List Tk), ds = [.ob r] ∧ Rdr A r a all ts M ∧ (∀ d rest, deedP ts = some (d, rest) → rest <:+ all → Q d.D (rdM A r a all rest M)) ∧ (deedP ts = none → ErrR A r M E)
theorem ok_read_deed (T : Txt w K mg A) : FnD P w K mg base 89 A.a_read_deed A.d_read_deed ["reader"] (sp_read_deed A) := by
  refine fnD_of T.f_read_deed sc_read_deed (fun ds M Q E ⟨_, _, _, _, h, _⟩ => by rw [h]; rfl) (fun cdv A0 outer s H E hr => der_read_deed T (ok_Reader_skip T) (by decide) (ok_read_expression T) (by decide) (ok_Reader_take_name T) (by decide) (ok_Reader_expect T) (by decide) cdv A0 outer s H E hr) ?_
  rintro ds M Q E ⟨r, a, all, ts, rfl, R, k1, k2⟩
  show w_read_deed A _ _ _ _ _ [some (.ob r), none] M
  unfold w_read_deed
  (repeat (first | walk_at "q" | simp only [QL.D.ob.injEq, exists_and_left, exists_eq_left', MO.ins.injEq, Option.some.injEq, true_and, and_true, onL_same, upm_same, upm_upm, R.i, rdF_m3]))
  refine skip_ok (.w (tx "print")) rfl R (fun h => ?_) (fun h => ?_)
  · (repeat (first | walk_at "q" | simp only [QL.D.ob.injEq, exists_and_left, exists_eq_left', MO.ins.injEq, Option.some.injEq, true_and, and_true, onL_same, upm_same, upm_upm]))
    have R2 := R.to (us := ts.tail) ((List.tail_suffix ts).trans R.s)
    refine rx_ok R2 (fun e rest he hs => ?_) (fun hn M' hM => ?_)
    · (repeat (first | walk_at "q" | simp only [QL.D.ob.injEq, exists_and_left, exists_eq_left', MO.ins.injEq, Option.some.injEq, true_and, and_true, onL_same, upm_same, upm_upm]))
      exact ⟨_, Sub.refl _, k1 (.prt e) rest (by unfold deedP; rw [if_pos h, he]; rfl) hs⟩
    · exact ⟨M', Sub.refl _, k2 (by unfold deedP; rw [if_pos h, hn]; rfl) M' ((Ext.refl r M).at.trans hM)⟩
  · (repeat (first | walk_at "q" | simp only [QL.D.ob.injEq, exists_and_left, exists_eq_left', MO.ins.injEq, Option.some.injEq, true_and, and_true, onL_same, upm_same, upm_upm, R.i, rdF_m3]))
    refine skip_ok (.w (tx "if")) rfl R (fun h1 => ?_) (fun h1 => ?_)
    · (repeat (first | walk_at "q" | simp only [QL.D.ob.injEq, exists_and_left, exists_eq_left', MO.ins.injEq, Option.some.injEq, true_and, and_true, onL_same, upm_same, upm_upm]))
      have R2 := R.to (us := ts.tail) ((List.tail_suffix ts).trans R.s)
      refine rx_ok R2 (fun e rest he hs => ?_) (fun hn M' hM => ?_)
      · (repeat (first | walk_at "q" | simp only [QL.D.ob.injEq, exists_and_left, exists_eq_left', MO.ins.injEq, Option.some.injEq, true_and, and_true, onL_same, upm_same, upm_upm]))
        exact ⟨_, Sub.refl _, k1 (.cnd e) rest (by unfold deedP; rw [if_neg h, if_pos h1, he]; rfl) hs⟩
      · exact ⟨M', Sub.refl _, k2 (by unfold deedP; rw [if_neg h, if_pos h1, hn]; rfl) M' ((Ext.refl r M).at.trans hM)⟩
    · (repeat (first | walk_at "q" | simp only [QL.D.ob.injEq, exists_and_left, exists_eq_left', MO.ins.injEq, Option.some.injEq, true_and, and_true, onL_same, upm_same, upm_upm, R.i, rdF_m5]))
      refine nam_ok R (fun v rest hv => ?_) (fun hn M' hM => ⟨M', Sub.refl _, k2 (by unfold deedP; rw [if_neg h, if_neg h1, hn]; rfl) M' hM⟩)
      have R2 := R.to (us := rest) (R.suf (namP_suf hv))
      (repeat (first | walk_at "q" | simp only [QL.D.ob.injEq, exists_and_left, exists_eq_left', MO.ins.injEq, Option.some.injEq, true_and, and_true, onL_same, upm_same, upm_upm, R2.i, rdF_m4]))
      refine exp_ok (.y 61) rfl R2 (fun r2 h2 => ?_) (fun hn M' hM => ⟨M', Sub.refl _, k2 (by unfold deedP; rw [if_neg h, if_neg h1, hv]; show (expP _ rest).bind _ = _; rw [hn]; rfl) M' ((Ext.refl r M).at.trans hM)⟩)
      have R3 := R2.to2 (us := r2) (R2.suf (expP_suf h2))
      (repeat (first | walk_at "q" | simp only [QL.D.ob.injEq, exists_and_left, exists_eq_left', MO.ins.injEq, Option.some.injEq, true_and, and_true, onL_same, upm_same, upm_upm]))
      refine rx_ok R3 (fun e r3 he hs => ?_) (fun hn M' hM => ⟨M', Sub.refl _, k2 (by unfold deedP; rw [if_neg h, if_neg h1, hv]; show (expP _ rest).bind _ = _; rw [h2]; show (exprP r2).map _ = _; rw [hn]; rfl) M' ((Ext.refl r M).at.trans hM)⟩)
      (repeat (first | walk_at "q" | simp only [QL.D.ob.injEq, exists_and_left, exists_eq_left', MO.ins.injEq, Option.some.injEq, true_and, and_true, onL_same, upm_same, upm_upm]))
      exact ⟨_, Sub.refl _, k1 (.set v e) r3 (by unfold deedP; rw [if_neg h, if_neg h1, hv]; show (expP _ rest).bind _ = _; rw [h2]; show (exprP r2).map _ = _; rw [he]; rfl) hs⟩
end
section
variable {P : Program} {w : World} {K : PySem.W.Frag} {mg : Str → Option Value} {base : Heap} {A : Ads}
def sp_is_blank : SpD := fun ds M Q _ => ∃ r : Tx, ds = [.str r] ∧ r.length ≤ 1000000 ∧ Q (.bl (isBl r)) M
theorem ok_is_blank (T : Txt w K mg A) : FnD P w K mg base 1 A.a_is_blank A.d_is_blank ["line"] sp_is_blank := by
  refine fnD_of T.f_is_blank sc_is_blank (fun ds M Q E ⟨_, h, _⟩ => by rw [h]; rfl) (fun cdv A0 outer s H E hr => der_is_blank T cdv A0 outer s H E hr) ?_
  rintro ds M Q E ⟨r, rfl, hl, k⟩
  show w_is_blank A _ [some (.str r)] M
  unfold w_is_blank
  have e32 : tx " " = [32] := rfl
  have e0 : tx "" = [] := rfl
  (repeat (first | walk_at "q" | simp only [QL.D.ob.injEq, exists_and_left, exists_eq_left', MO.ins.injEq, Option.some.injEq, true_and, and_true, onL_same, upm_same, upm_upm, e32, e0, e_strip, ssT_nil]))
  exact ⟨by rw [sizeLine_eq]; omega, rfl, rfl, M, Sub.refl _, k⟩
/-- rows that a text is cut into -/
structure Rows (l : Tx) (rows : List Tx) : Prop where
  e : l = joinT [10] rows
  ne : rows ≠ []
  no : ∀ r ∈ rows, ¬ (10 : Nat) ∈ r
  sz : ∀ r ∈ rows, r.length ≤ 1000000
  len : l.length ≤ 8000000
theorem rows_split {l : Tx} {rows : List Tx} {M : Mp} {Q : KD} (h : Rows l rows) (k : ∀ p, M p = none → Q (.ob p) (upm M p (.lst (rows.map QL.D.str)))) : splitD (.str l) [.str (tx "\n")] M Q := by
  have e10 : tx "\n" = [10] := rfl
  rw [e10]
  exact ⟨by decide, by have := h.len; rw [sizeLine_eq]; omega, rows, h.ne, h.no, h.e, k⟩
theorem tkD_inj {a b : List Tk} (h : a.map Tk.D = b.map Tk.D) : a = b := by
  induction a generalizing b with
  | nil => cases b with
    | nil => rfl
    | cons x b => cases h
  | cons y a ih => cases b with
    | nil => cases h
    | cons x b =>
      rw [List.map_cons, List.map_cons] at h
      injection h with h1 h2
      rw [Tk.D_inj h1, ih h2]
theorem line_one {α : Type} {p : List Tk → Option α} {l : Tx} {x y : α} (h : LineIs p l x) (k : LineIs p l y) : x = y := by
  obtain ⟨a, h1, h2⟩ := h
  obtain ⟨b, k1, k2⟩ := k
  rw [h1] at k1
  have := tkD_inj (Option.some.inj k1)
  subst this
  rw [h2] at k2
  exact Option.some.inj k2
theorem line_no {α : Type} {p : List Tk → Option α} {l : Tx} {x : α} (h : LineIs p l x) (k : NoLine p l) : False := by
  obtain ⟨a, h1, h2⟩ := h
  rcases k with k | ⟨b, k1, k2⟩
  · rw [h1] at k; cases k
  · rw [h1] at k1
    have := tkD_inj (Option.some.inj k1)
    subst this
    rw [h2] at k2; cases k2
end
section
variable {P : Program} {w : World} {K : PySem.W.Frag} {mg : Str → Option Value} {base : Heap} {A : Ads}
theorem take_at {α : Type} {xs : List α} {i : Nat} {x : α} (h : xs[i]? = some x) : xs.take (i + 1) = xs.take i ++ [x] := by
  rw [List.take_add_one, h]; rfl
end
section
variable {P : Program} {w : World} {K : PySem.W.Frag} {mg : Str → Option Value} {base : Heap} {A : Ads}
theorem txt10 {e : Ex} (he : ExOk e) (hh : e.ht ≤ 10) : (txt 0 e).length ≤ 15360 := by
  have := txt_len e 0 he
  have p : 2 ^ e.ht ≤ 2 ^ 10 := Nat.pow_le_pow_right (by decide) hh
  omega
def sp_deed_text : SpD := fun ds M Q _ => ∃ d : Dd, ds = [d.D] ∧ ExOk d.ex ∧ d.ex.ht ≤ 10 ∧ (∀ v e, d = .set v e → v.length ≤ 20) ∧ Q (.str (ddTx d)) M
theorem ok_deed_text (T : Txt w K mg A) : FnD P w K mg base 23 A.a_deed_text A.d_deed_text ["deed"] sp_deed_text := by
  refine fnD_of T.f_deed_text sc_deed_text (fun ds M Q E ⟨_, h, _⟩ => by rw [h]; rfl) (fun cdv A0 outer s H E hr => der_deed_text T (ok_expression_text T) (Nat.le_refl _) cdv A0 outer s H E hr) ?_
  rintro ds M Q E ⟨d, rfl, he, hh, hv, k⟩
  show w_deed_text A _ _ [some d.D] M
  unfold w_deed_text
  have c1 : ¬ tx "print" = tx "set" := by decide
  have c2 : ¬ tx "if" = tx "set" := by decide
  have l1 : (tx " = ").length = 3 := rfl
  have l2 : (tx "print").length = 5 := rfl
  have l3 : (tx "if").length = 2 := rfl
  have l4 : (tx " ").length = 1 := rfl
  have sz := sizeLine_eq
  cases d with
  | set v e =>
    simp only [Dd.D]
    have hv1 := hv v e rfl
    have t : (txt 0 e).length ≤ 15360 := txt10 he hh
    (repeat (first | walk_at "q" | simp only [QL.D.ob.injEq, exists_and_left, exists_eq_left', MO.ins.injEq, Option.some.injEq, true_and, and_true, onL_same, upm_same, upm_upm, List.nil_append]))
    simp only [List.length_append, l1]
    refine ⟨rfl, rfl, by omega, by omega, by omega, e, rfl, Nat.le_trans hh (by decide), he, ?_⟩
    (repeat (first | walk_at "q" | simp only [QL.D.ob.injEq, exists_and_left, exists_eq_left', MO.ins.injEq, Option.some.injEq, true_and, and_true, onL_same, upm_same, upm_upm]))
    refine ⟨by omega, by first | omega | (simp only [List.length_append, l1]; omega), M, Sub.refl _, k⟩
  | prt e =>
    simp only [Dd.D]
    have t : (txt 0 e).length ≤ 15360 := txt10 he hh
    (repeat (first | walk_at "q" | simp only [QL.D.ob.injEq, exists_and_left, exists_eq_left', MO.ins.injEq, Option.some.injEq, true_and, and_true, onL_same, upm_same, upm_upm, c1, List.nil_append]))
    simp only [List.length_append, l2, l4]
    refine ⟨rfl, rfl, by omega, by omega, by omega, e, rfl, Nat.le_trans hh (by decide), he, ?_⟩
    (repeat (first | walk_at "q" | simp only [QL.D.ob.injEq, exists_and_left, exists_eq_left', MO.ins.injEq, Option.some.injEq, true_and, and_true, onL_same, upm_same, upm_upm]))
    refine ⟨by omega, by first | omega | (simp only [List.length_append, l2, l4]; omega), M, Sub.refl _, k⟩
  | cnd e =>
    simp only [Dd.D]
    have t : (txt 0 e).length ≤ 15360 := txt10 he hh
    (repeat (first | walk_at "q" | simp only [QL.D.ob.injEq, exists_and_left, exists_eq_left', MO.ins.injEq, Option.some.injEq, true_and, and_true, onL_same, upm_same, upm_upm, c2, List.nil_append]))
    simp only [List.length_append, l3, l4]
    refine ⟨rfl, rfl, by omega, by omega, by omega, e, rfl, Nat.le_trans hh (by decide), he, ?_⟩
    (repeat (first | walk_at "q" | simp only [QL.D.ob.injEq, exists_and_left, exists_eq_left', MO.ins.injEq, Option.some.injEq, true_and, and_true, onL_same, upm_same, upm_upm]))
    refine ⟨by omega, by first | omega | (simp only [List.length_append, l3, l4]; omega), M, Sub.refl _, k⟩
end
section
variable {P : Program} {w : World} {K : PySem.W.Frag} {mg : Str → Option Value} {base : Heap} {A : Ads}
def sp_law_cell : SpD := fun ds M Q _ => ∃ (ns : List Int) (k : Nat), ds = [.fl (ns.map .int), .int k] ∧ Q (.int (ns.getD k 0)) M
theorem ok_law_cell (T : Txt w K mg A) : FnD P w K mg base 1 A.a_law_cell A.d_law_cell ["_law_script", "_law_k"] sp_law_cell := by
  refine fnD_of T.f_law_cell sc_law_cell (fun ds M Q E ⟨_, _, h, _⟩ => by rw [h]; rfl) (fun cdv A0 outer s H E hr => der_law_cell T cdv A0 outer s H E hr) ?_
  rintro ds M Q E ⟨ns, k, rfl, q⟩
  show w_law_cell A _ [some (.fl (ns.map .int)), some (.int k)] M
  unfold w_law_cell
  walk_at "q"
  rw [List.length_map]
  refine ite2 (fun h => ?_) (fun h => ?_)
  · have h' : k < ns.length := by omega
    refine ⟨.int ns[k], by rw [atI_cast]; simp [h'], M, Sub.refl _, ?_⟩
    rwa [List.getD_eq_getElem?_getD, List.getElem?_eq_getElem h'] at q
  · refine ⟨M, Sub.refl _, ?_⟩
    rwa [List.getD_eq_getElem?_getD, List.getElem?_eq_none (by omega)] at q
def sp_law_draws : SpD := fun ds M Q _ => ∃ (c : Int) (n : Nat), ds = [.int c, .int n] ∧ n ≤ 60 ∧ ∀ (p : Addr) (xs : List Int), M p = none → xs.length = n → (∀ x ∈ xs, 0 ≤ x ∧ x < 60) → Q (.ob p) (upm M p (.lst (xs.map .int)))
theorem ok_law_draws (T : Txt w K mg A) : FnD P w K mg base 1 A.a_law_draws A.d_law_draws ["_law_cell_here", "_law_count"] sp_law_draws := by
  refine fnD_of T.f_law_draws sc_law_draws (fun ds M Q E ⟨_, _, h, _⟩ => by rw [h]; rfl) (fun cdv A0 outer s H E hr => der_law_draws T cdv A0 outer s H E hr) ?_
  rintro ds M Q E ⟨c, n, rfl, hn, q⟩
  show w_law_draws A _ [some (.int c), some (.int n), none, none, none, none, none] M
  unfold w_law_draws
  walk_at "q"
  refine ⟨⟨by decide, by decide, by decide⟩, ?_⟩
  intro p hp
  obtain ⟨I, hI⟩ : ∃ I : Nat → QL.Env → Mp → Prop, I = fun i δ M' => ∃ (v : Int) (g : Bool) (xs : List Int) (a b : Option QL.D), δ = [some (.int c), some (.int n), some (.int v), some (.bl g), some (.ob p), a, b] ∧ M' = upm M p (.lst (xs.map .int)) ∧ xs.length = min i n ∧ ∀ x ∈ xs, 0 ≤ x ∧ x < 60 := ⟨_, rfl⟩
  refine ⟨by decide, for_rng I ?_ ?_ ?_⟩
  · rw [hI]; exact ⟨_, _, [], none, none, rfl, rfl, by simp, fun x h => by cases h⟩
  · intro i δ M' hi h
    rw [hI] at h
    obtain ⟨v, g, xs, a, b, rfl, rfl, hl, hb⟩ := h
    have hi : i < 60 := hi
    rw [Int.zero_add]
    walk_at "q"
    have nx : ∀ (y : Int) (v : Int) (a b : Option QL.D), i < n → 0 ≤ y → y < 60 → I (i + 1) [some (.int c), some (.int n), some (.int v), some (.bl g), some (.ob p), a, b] (upm M p (.lst (xs.map .int ++ [.int y]))) := by
      intro y v a b h1 h2 h3
      rw [hI]
      refine ⟨v, g, xs ++ [y], a, b, rfl, by simp, by rw [List.length_append, hl]; simp; omega, fun x hx => ?_⟩
      rcases List.mem_append.mp hx with z | z
      · exact hb x z
      · rw [List.mem_singleton.mp z]; exact ⟨h2, h3⟩
    have hsz : (xs.map QL.D.int).length < sizeLine := by rw [List.length_map, line_eq]; omega
    have stay : ¬ (i < n) → I (i + 1) [some (.int c), some (.int n), some (.int v), some (.bl g), some (.ob p), some (.int i), b] (upm M p (.lst (xs.map .int))) := by
      intro h
      rw [hI]
      exact ⟨v, g, xs, _, b, rfl, rfl, by omega, hb⟩
    have mul1 : ∀ a b : Int, (-(2 ^ 64) < b ∧ b < 2 ^ 64) → CMul a b := fun a b h => .inr h
    have mixed : i < n → CMul v 48271 ∧ CMul (i : Int) 69621 ∧ (0 : Int) < 2147483647 ∧ CMul ((v * 48271 + i * 69621 + 11) % 2147483647) ((v * 48271 + i * 69621 + 11) % 2147483647) ∧ CMul (i : Int) 7919 ∧ (0 : Int) < 998244353 ∧ (0 : Int) < 60 ∧ (xs.map QL.D.int).length < sizeLine ∧
        I (i + 1) [some (.int c), some (.int n), some (.int v), some (.bl g), some (.ob p), some (.int i), some (.int (((v * 48271 + i * 69621 + 11) % 2147483647 * ((v * 48271 + i * 69621 + 11) % 2147483647) + i * 7919 + 5) % 998244353))]
          (upm M p (.lst (xs.map .int ++ [.int (((v * 48271 + i * 69621 + 11) % 2147483647 * ((v * 48271 + i * 69621 + 11) % 2147483647) + i * 7919 + 5) % 998244353 % 60)]))) := by
      intro h
      refine ⟨mul1 _ _ (by omega), mul1 _ _ (by omega), by decide, ?_, mul1 _ _ (by omega), by decide, by decide, hsz, nx _ _ _ _ h (Int.emod_nonneg _ (by decide)) (Int.emod_lt_of_pos _ (by decide))⟩
      generalize v * 48271 + (i : Int) * 69621 + 11 = t
      have t1 := Int.emod_nonneg t (show (2147483647 : Int) ≠ 0 by decide)
      have t2 := Int.emod_lt_of_pos t (show (0 : Int) < 2147483647 by decide)
      exact mul1 _ _ (by omega)
    refine ite2 (fun h => ?_) (fun h => ?_)
    · have h' : i < n := by omega
      refine ite2 (fun hg => ?_) (fun hg => ?_)
      · exact ⟨by decide, hsz, ⟨by decide, by decide⟩, nx _ _ _ _ h' (Int.emod_nonneg _ (by decide)) (Int.emod_lt_of_pos _ (by decide))⟩
      · rw [if_pos h]; exact mixed h'
    · rw [if_neg h]; exact stay (by omega)
  · intro δ M' h
    rw [hI] at h
    obtain ⟨v, g, xs, a, b, rfl, rfl, hl, hb⟩ := h
    walk_at "q"
    have hl : xs.length = min 60 n := hl
    exact ⟨_, Sub.refl _, q p xs hp (by omega) hb⟩
def sp_law_stream : SpD := fun ds M Q _ => ∃ (ns : List Int) (f n : Nat), ds = [.fl (ns.map .int), .int f, .int n] ∧ 0 < n ∧ n ≤ 1000 ∧ ∀ (s p q : Addr) (xs : List Int) (M' : Mp), Sub M M' → M s = none → M p = none → M q = none → Stm s p q xs M' → Q (.ob s) M'
theorem ok_law_stream (T : Txt w K mg A) : FnD P w K mg base 2 A.a_law_stream A.d_law_stream ["_law_script", "_law_first", "_law_count"] sp_law_stream := by
  refine fnD_of T.f_law_stream sc_law_stream (fun ds M Q E ⟨_, _, _, h, _⟩ => by rw [h]; rfl) (fun cdv A0 outer s H E hr => der_law_stream T (ok_law_draws T) (Nat.le_refl _) (ok_law_cell T) (Nat.le_refl _) cdv A0 outer s H E hr) ?_
  rintro ds M Q E ⟨ns, f, n, rfl, hn0, hn, q⟩
  show w_law_stream A _ _ _ [some (.fl (ns.map .int)), some (.int f), some (.int n), none, none] M
  unfold w_law_stream
  walk_at "q"
  intro p hp
  obtain ⟨I, hI⟩ : ∃ I : Nat → QL.Env → Mp → Prop, I = fun i δ M' => ∃ (xs : List Int) (a : Option QL.D), δ = [some (.fl (ns.map .int)), some (.int f), some (.int n), some (.ob p), a] ∧ Sub M M' ∧ M' p = some (.lst (xs.map .int)) ∧ xs.length = 12 * i ∧ ∀ x ∈ xs, 0 ≤ x ∧ x < 60 := ⟨_, rfl⟩
  refine ⟨⟨by omega, by omega⟩, for_rng I ?_ ?_ ?_⟩
  · rw [hI]; exact ⟨[], none, rfl, Sub.new hp (Sub.refl _), upm_same, rfl, fun x h => by cases h⟩
  · intro i δ M' hi h
    rw [hI] at h
    obtain ⟨xs, a, rfl, hs, hM, hl, hb⟩ := h
    have hi : i < n := by simpa using hi
    rw [Int.zero_add]
    walk_at "q"
    refine ⟨⟨_, hM⟩, ns, f + i, rfl, _, 12, rfl, by decide, ?_⟩
    intro r ys hr hyl hyb
    walk_at "q"
    have npr : p ≠ r := mne hM hr
    refine ⟨xs.map .int, by rw [upm_ne npr]; exact hM, by rw [List.length_map, List.length_map, line_eq]; omega, ?_⟩
    rw [hI]
    have hpM : M p = none := hp
    refine ⟨xs ++ ys, _, rfl, fun b o e => ?_, by rw [upm_same]; simp, by rw [List.length_append]; omega, fun x hx => (List.mem_append.mp hx).elim (hb x) (hyb x)⟩
    rw [upm_ne (mne e hpM), upm_ne (mne (hs b o e) hr)]
    exact hs b o e
  · intro δ M' h
    rw [hI] at h
    obtain ⟨xs, a, rfl, hs, hM, hl, hb⟩ := h
    have hl : xs.length = 12 * n := by simpa using hl
    walk_at "q"
    intro q1 hq1 s1 hs1
    obtain ⟨hs1, n1⟩ := upm_none hs1
    have npq : p ≠ q1 := mne hM hq1
    have nps : p ≠ s1 := mne hM hs1
    have free : ∀ {b : Addr}, M' b = none → M b = none := fun {b} e => by
      cases z : M b with
      | none => rfl
      | some o => rw [hs b o z] at e; cases e
    refine ⟨_, Sub.refl _, q s1 p q1 xs _ (Sub.new (free hs1) (Sub.new (free hq1) hs)) (free hs1) hp (free hq1) ?_⟩
    exact ⟨upm_same, by rw [upm_ne nps, upm_ne npq]; exact hM, ⟨0, by decide, by rw [upm_ne (Ne.symm n1)]; exact upm_same⟩, n1, npq, fun e => by rw [e] at hl; simp at hl; omega, hb⟩
def sp_law_next : SpD := fun ds M Q _ => ∃ (s p q : Addr) (xs : List Int) (n : Int), ds = [.ob s, .int n] ∧ 0 < n ∧ Stm s p q xs M ∧ ∀ (v : Int) (M' : Mp), 0 ≤ v → v < n → v < 60 → Drawn s p q xs M M' → Q (.int v) M'
theorem ok_law_next (T : Txt w K mg A) : FnD P w K mg base 1 A.a_law_next A.d_law_next ["_law_stream_here", "_law_many"] sp_law_next := by
  refine fnD_of T.f_law_next sc_law_next (fun ds M Q E ⟨_, _, _, _, _, h, _⟩ => by rw [h]; rfl) (fun cdv A0 outer s H E hr => der_law_next T cdv A0 outer s H E hr) ?_
  rintro ds M Q E ⟨s, p, q, xs, n, rfl, hn, S, k⟩
  show w_law_next A _ [some (.ob s), some (.int n), none, none, none] M
  obtain ⟨i, hi, hq⟩ := S.hq
  have hx : 0 < xs.length := by
    cases xs with
    | nil => exact absurd rfl S.ne
    | cons x r => simp
  unfold w_law_next
  walk_at "q"
  refine ⟨_, S.hs, _, atI_0 _ _, _, S.hs, _, atI_1 _ _ _, ?_⟩
  walk_at "q"
  refine ⟨_, hq, _, atI_0 _ _, ?_⟩
  walk_at "q"
  refine ⟨_, S.hp, ?_⟩
  walk_at "q"
  rw [List.length_map]
  have hm0 := Int.emod_nonneg i (show ((xs.length : Nat) : Int) ≠ 0 by omega)
  have hm1 := Int.emod_lt_of_pos i (show (0 : Int) < (xs.length : Nat) by omega)
  obtain ⟨j, hj⟩ := Int.eq_ofNat_of_zero_le hm0
  have hj' : j < xs.length := by omega
  refine ⟨by omega, _, S.hp, .int xs[j], by rw [hj]; exact (atI_cast _ _).trans (by simp [hj']), ?_⟩
  walk_at "q"
  refine ⟨hn, _, hq, _, atI_0 _ _, ?_⟩
  walk_at "q"
  refine ⟨q, _, 0, 0, rfl, rfl, hq, rfl, ?_⟩
  walk_at "q"
  have b := S.bd xs[j] (List.getElem_mem hj')
  have d0 := Int.emod_nonneg xs[j] (show n ≠ 0 by omega)
  have d1 := Int.emod_lt_of_pos xs[j] hn
  have d2 : xs[j] % n ≤ xs[j] := by
    by_cases h : xs[j] < n
    · rw [Int.emod_eq_of_lt b.1 h]; exact Int.le_refl _
    · omega
  exact ⟨_, Sub.refl _, k _ _ d0 d1 (by omega) ⟨(Ext.refl q M).at, S.ext (Ext.refl q M).at ⟨i + 1, by omega, upm_same⟩⟩⟩
/-- a draw: behind it the state is as before, but for the place -/
theorem next_ok {s p q : Addr} {xs : List Int} {n : Int} {M : Mp} {Q : KD} {E : XKD} (S : Stm s p q xs M) (hn : 0 < n) (h : ∀ (v : Nat) (M' : Mp), (v : Int) < n → v < 60 → Drawn s p q xs M M' → Q (.int v) M') : sp_law_next [.ob s, .int n] M Q E :=
  ⟨s, p, q, xs, n, rfl, hn, S, fun v M' h0 h1 h2 d => by
    obtain ⟨u, rfl⟩ := Int.eq_ofNat_of_zero_le h0
    exact h u M' h1 (by omega) d⟩
end
section
variable {P : Program} {w : World} {K : PySem.W.Frag} {mg : Str → Option Value} {base : Heap} {A : Ads}
def sp_law_number : SpD := fun ds M Q _ => ∃ (s p q : Addr) (xs : List Int), ds = [.ob s] ∧ Stm s p q xs M ∧ ∀ (v : Nat) (M' : Mp), v ≤ 1000000 → Drawn s p q xs M M' → Q (.int v) M'
theorem ok_law_number (T : Txt w K mg A) : FnD P w K mg base 2 A.a_law_number A.d_law_number ["_law_stream_here"] sp_law_number := by
  refine fnD_of T.f_law_number sc_law_number (fun ds M Q E ⟨_, _, _, _, h, _⟩ => by rw [h]; rfl) (fun cdv A0 outer s H E hr => der_law_number T (ok_law_next T) (Nat.le_refl _) cdv A0 outer s H E hr) ?_
  rintro ds M Q E ⟨s, p, q, xs, rfl, S, k⟩
  show w_law_number A _ _ [some (.ob s), none] M
  have ret : ∀ (v : Int) (M' : Mp), 0 ≤ v → v ≤ 1000000 → Drawn s p q xs M M' → endR Q (.int v) M' := fun v M' h0 h1 d => by
    obtain ⟨u, rfl⟩ := Int.eq_ofNat_of_zero_le h0
    exact ⟨M', Sub.refl _, k u M' (by omega) d⟩
  have mul1 : ∀ a b : Int, (-(2 ^ 64) < a ∧ a < 2 ^ 64) → CMul a b := fun a b h => .inl h
  unfold w_law_number
  walk_at "q"
  refine next_ok S (by decide) fun v1 M1 a1 b1 d1 => ?_
  walk_at "q"
  refine ⟨rfl, rfl, ite2 (fun _ => ?_) (fun _ => ?_)⟩
  · refine next_ok d1.2 (by decide) fun v2 M2 a2 b2 d2 => ?_
    intro l hl
    have d2' := d1.trans d2
    refine next_ok (d2.2.new hl) (by decide) fun v3 M3 a3 b3 d3 => ?_
    walk_at "q"
    have e3 : M3 l = some (.lst [.int 1, .int 16949]) := d3.1 _ _ ((d2.2.neq hl).1) upm_same
    have d : Drawn s p q xs M M3 := ⟨(d2'.1.new hl).trans d3.1, d3.2⟩
    refine ⟨_, e3, ?_⟩
    have hv3 : v3 = 0 ∨ v3 = 1 := by omega
    rcases hv3 with rfl | rfl
    · refine ⟨.int 1, rfl, ?_⟩
      walk_at "q"
      exact ⟨mul1 _ _ (by omega), ret _ _ (by omega) (by omega) d⟩
    · refine ⟨.int 16949, rfl, ?_⟩
      walk_at "q"
      exact ⟨mul1 _ _ (by omega), ret _ _ (by omega) (by omega) d⟩
  refine ⟨rfl, rfl, ite2 (fun _ => ?_) (fun _ => ?_)⟩
  · refine next_ok d1.2 (by decide) fun v2 M2 a2 b2 d2 => ?_
    walk_at "q"
    refine ⟨mul1 _ _ (by omega), ?_⟩
    refine next_ok d2.2 (by decide) fun v3 M3 a3 b3 d3 => ?_
    walk_at "q"
    exact ret _ _ (by omega) (by omega) (d1.trans (d2.trans d3))
  · refine next_ok d1.2 (by decide) fun v2 M2 a2 b2 d2 => ?_
    exact ret _ _ (by omega) (by omega) (d1.trans d2)
end
section
variable {P : Program} {w : World} {K : PySem.W.Frag} {mg : Str → Option Value} {base : Heap} {A : Ads}
def VARS5 : List Tx := [tx "n", tx "i", tx "x", tx "total", tx "q"]
theorem vars5_ok : ∀ v ∈ VARS5, VarOk v := by
  have h : ∀ v ∈ VARS5, v ≠ [] ∧ v.length ≤ 8 ∧ (∀ c ∈ v, c ∈ LET) ∧ isName v = true := by decide +kernel
  exact h
def sp_law_variable : SpD := fun ds M Q _ => ∃ (s p q : Addr) (xs : List Int), ds = [.ob s] ∧ Stm s p q xs M ∧ ∀ (v : Tx) (M' : Mp), VarOk v → Drawn s p q xs M M' → Q (.str v) M'
theorem ok_law_variable (T : Txt w K mg A) : FnD P w K mg base 2 A.a_law_variable A.d_law_variable ["_law_stream_here"] sp_law_variable := by
  refine fnD_of T.f_law_variable sc_law_variable (fun ds M Q E ⟨_, _, _, _, h, _⟩ => by rw [h]; rfl) (fun cdv A0 outer s H E hr => der_law_variable T (ok_law_next T) (Nat.le_refl _) cdv A0 outer s H E hr) ?_
  rintro ds M Q E ⟨s, p, q, xs, rfl, S, k⟩
  show w_law_variable A _ _ [some (.ob s)] M
  unfold w_law_variable
  (repeat (first | walk_at "q" | simp only [QL.D.ob.injEq, exists_and_left, exists_eq_left', MO.ins.injEq, Option.some.injEq, true_and, and_true, onL_same, upm_same, upm_upm]))
  intro l hl
  have ne := S.neq hl
  refine next_ok (S.new hl) (by decide) fun v M2 a2 b2 d2 => ?_
  (repeat (first | walk_at "q" | simp only [QL.D.ob.injEq, exists_and_left, exists_eq_left', MO.ins.injEq, Option.some.injEq, true_and, and_true, onL_same, upm_same, upm_upm]))
  have hv : v < VARS5.length := by show v < 5; omega
  have el : M2 l = some (.lst (VARS5.map QL.D.str)) := d2.1 _ _ ne.1 upm_same
  refine ⟨_, el, .str VARS5[v], by rw [atI_cast, List.getElem?_map, List.getElem?_eq_getElem hv]; rfl, M2, Sub.refl _, k _ _ (vars5_ok _ (List.getElem_mem hv)) ⟨((Ext.refl q M).new hl).trans d2.1, d2.2⟩⟩
def OPS7 : List Nat := [61, 60, 43, 45, 42, 43, 45]
theorem ops7_ok : ∀ c ∈ OPS7, OpOk c := by
  intro c hc
  simp [OPS7] at hc
  unfold OpOk
  omega
def sp_law_expression (n : Nat) : SpD := fun ds M Q _ => ∃ (s p q : Addr) (xs : List Int), ds = [.ob s, .int n] ∧ Stm s p q xs M ∧ ∀ (e : Ex) (M' : Mp), ExOk e → e.ht ≤ n + 1 → Drawn s p q xs M M' → Q e.D M'
theorem ok_law_expression1 (T : Txt w K mg A) {n kc : Nat} {spc : SpD} (hk : 2 ≤ kc) (C : FnD P w K mg base kc A.a_law_expression A.d_law_expression ["_law_stream_here", "_law_depth"] spc) (hc : ∀ m ds M Q E, n = m + 1 → sp_law_expression m ds M Q E → spc ds M Q E) :
    FnD P w K mg base (kc + 1) A.a_law_expression A.d_law_expression ["_law_stream_here", "_law_depth"] (sp_law_expression n) := by
  refine fnD_of T.f_law_expression sc_law_expression (fun ds M Q E ⟨_, _, _, _, h, _⟩ => by rw [h]; rfl) (fun cdv A0 outer s H E hr => der_law_expression T (ok_law_next T) (Nat.le_trans (by decide) hk) (ok_law_number T) hk (ok_law_variable T) hk C (Nat.le_refl _) cdv A0 outer s H E hr) ?_
  rintro ds M Q E ⟨s, p, q, xs, rfl, S, k⟩
  show w_law_expression A _ _ _ _ _ [some (.ob s), some (.int n), none, none] M
  unfold w_law_expression
  (repeat (first | walk_at "q" | simp only [QL.D.ob.injEq, exists_and_left, exists_eq_left', MO.ins.injEq, Option.some.injEq, true_and, and_true, onL_same, upm_same, upm_upm]))
  refine next_ok S (by decide) fun v M1 a1 b1 d1 => ?_
  (repeat (first | walk_at "q" | simp only [QL.D.ob.injEq, exists_and_left, exists_eq_left', MO.ins.injEq, Option.some.injEq, true_and, and_true, onL_same, upm_same, upm_upm]))
  have num : sp_law_number [.ob s] M1 (fun d M2 => endR Q (.tup [.str (tx "number"), d]) M2) (fun x M => endX E x [some (.ob s), some (.int n), some (.int v), none] M) := by
    refine ⟨s, p, q, xs, rfl, d1.2, fun m M2 hm d2 => ?_⟩
    exact ⟨M2, Sub.refl _, k (.num m) M2 hm (by show 1 ≤ n + 1; omega) (d1.trans d2)⟩
  refine ⟨rfl, rfl, ?_⟩
  refine ite2 (fun h => num) (fun h => ite2 (fun h1 => num) (fun h1 => ite2 (fun h2 => ?_) (fun h2 => ?_)))
  · refine ⟨s, p, q, xs, rfl, d1.2, fun u M2 hu d2 => ?_⟩
    exact ⟨M2, Sub.refl _, k (.var u) M2 hu (by show 1 ≤ n + 1; omega) (d1.trans d2)⟩
  · obtain ⟨m, rfl⟩ : ∃ m, n = m + 1 := ⟨n - 1, by omega⟩
    intro l hl
    have ne := d1.2.neq hl
    refine next_ok (d1.2.new hl) (by decide) fun c M2 a2 b2 d2 => ?_
    (repeat (first | walk_at "q" | simp only [QL.D.ob.injEq, exists_and_left, exists_eq_left', MO.ins.injEq, Option.some.injEq, true_and, and_true, onL_same, upm_same, upm_upm]))
    have hv : c < OPS7.length := by show c < 7; omega
    have el : M2 l = some (.lst (OPS7.map fun c => QL.D.str [c])) := d2.1 _ _ ne.1 upm_same
    refine ⟨_, el, .str [OPS7[c]], by rw [atI_cast, List.getElem?_map, List.getElem?_eq_getElem hv]; rfl, ?_⟩
    have em : (((m + 1 : Nat) : Int) - 1) = (m : Int) := by omega
    rw [em]
    refine hc m _ _ _ _ rfl ⟨s, p, q, xs, rfl, d2.2, fun e1 M3 o1 l1 d3 => ?_⟩
    refine hc m _ _ _ _ rfl ⟨s, p, q, xs, rfl, d3.2, fun e2 M4 o2 l2 d4 => ?_⟩
    refine ⟨M4, Sub.refl _, k (.bin OPS7[c] e1 e2) M4 ⟨ops7_ok _ (List.getElem_mem hv), o1, o2⟩ (by show 1 + max e1.ht e2.ht ≤ m + 1 + 1; omega) ?_⟩
    exact ⟨(((d1.1.new hl).trans d2.1).trans d3.1).trans d4.1, d4.2⟩
theorem ok_law_expression (T : Txt w K mg A) : ∀ n : Nat, FnD P w K mg base (n + 3) A.a_law_expression A.d_law_expression ["_law_stream_here", "_law_depth"] (sp_law_expression n)
  | 0 => ok_law_expression1 T (kc := 2) (Nat.le_refl _) FnD.none fun m _ _ _ _ h _ => by omega
  | n + 1 => ok_law_expression1 T (kc := n + 3) (by omega) (ok_law_expression T n) fun m ds M Q E h z => by
    obtain rfl : n = m := by omega
    exact z
end
section
variable {P : Program} {w : World} {K : PySem.W.Frag} {mg : Str → Option Value} {base : Heap} {A : Ads}
theorem drawn_new {s p q l : Addr} {xs : List Int} {M M' : Mp} {o : MO} (h : QL.Drawn s p q xs M M') (hl : M' l = none) : QL.Drawn s p q xs M (upm M' l o) := ⟨h.1.new hl, h.2.new hl⟩
def sp_law_deed : SpD := fun ds M Q _ => ∃ (s p q : Addr) (xs : List Int) (c : Bool), ds = [.ob s, .bl c] ∧ Stm s p q xs M ∧ ∀ (d : Dd) (M' : Mp), DdOk d → d.ex.ht ≤ 3 → d.isC = c → QL.Drawn s p q xs M M' → Q d.D M'
theorem ok_law_deed (T : Txt w K mg A) : FnD P w K mg base 6 A.a_law_deed A.d_law_deed ["_law_stream_here", "_law_conditional"] sp_law_deed := by
  refine fnD_of T.f_law_deed sc_law_deed (fun ds M Q E ⟨_, _, _, _, _, h, _⟩ => by rw [h]; rfl) (fun cdv A0 outer s H E hr => der_law_deed T (ok_law_expression T 2) (by decide) (ok_law_next T) (by decide) (ok_law_variable T) (by decide) cdv A0 outer s H E hr) ?_
  rintro ds M Q E ⟨s, p, q, xs, c, rfl, S, k⟩
  show w_law_deed A _ _ _ _ [some (.ob s), some (.bl c)] M
  unfold w_law_deed
  cases c with
  | true =>
    (repeat (first | walk_at "q" | simp only [QL.D.ob.injEq, exists_and_left, exists_eq_left', MO.ins.injEq, Option.some.injEq, true_and, and_true, onL_same, upm_same, upm_upm]))
    refine ⟨s, p, q, xs, rfl, S, fun e M1 he hh d1 => ?_⟩
    (repeat (first | walk_at "q" | simp only [QL.D.ob.injEq, exists_and_left, exists_eq_left', MO.ins.injEq, Option.some.injEq, true_and, and_true, onL_same, upm_same, upm_upm]))
    exact ⟨M1, Sub.refl _, k (.cnd e) M1 ⟨he, by show e.ht ≤ 10; omega, fun v e z => by cases z⟩ hh rfl d1⟩
  | false =>
    (repeat (first | walk_at "q" | simp only [QL.D.ob.injEq, exists_and_left, exists_eq_left', MO.ins.injEq, Option.some.injEq, true_and, and_true, onL_same, upm_same, upm_upm]))
    refine next_ok S (by decide) fun v M1 a1 b1 d1 => ?_
    (repeat (first | walk_at "q" | simp only [QL.D.ob.injEq, exists_and_left, exists_eq_left', MO.ins.injEq, Option.some.injEq, true_and, and_true, onL_same, upm_same, upm_upm]))
    refine ⟨rfl, rfl, ite2 (fun _ => ?_) (fun _ => ?_)⟩
    · refine ⟨s, p, q, xs, rfl, d1.2, fun e M2 he hh d2 => ?_⟩
      (repeat (first | walk_at "q" | simp only [QL.D.ob.injEq, exists_and_left, exists_eq_left', MO.ins.injEq, Option.some.injEq, true_and, and_true, onL_same, upm_same, upm_upm]))
      exact ⟨M2, Sub.refl _, k (.prt e) M2 ⟨he, by show e.ht ≤ 10; omega, fun v e z => by cases z⟩ hh rfl (d1.trans d2)⟩
    · refine ⟨s, p, q, xs, rfl, d1.2, fun v M2 hv d2 => ?_⟩
      (repeat (first | walk_at "q" | simp only [QL.D.ob.injEq, exists_and_left, exists_eq_left', MO.ins.injEq, Option.some.injEq, true_and, and_true, onL_same, upm_same, upm_upm]))
      refine ⟨s, p, q, xs, rfl, d2.2, fun e M3 he hh d3 => ?_⟩
      (repeat (first | walk_at "q" | simp only [QL.D.ob.injEq, exists_and_left, exists_eq_left', MO.ins.injEq, Option.some.injEq, true_and, and_true, onL_same, upm_same, upm_upm]))
      exact ⟨M3, Sub.refl _, k (.set v e) M3 ⟨he, by show e.ht ≤ 10; omega, fun v' e' z => by cases z; exact hv⟩ hh rfl ((d1.trans d2).trans d3)⟩
end
section
variable {P : Program} {w : World} {K : PySem.W.Frag} {mg : Str → Option Value} {base : Heap} {A : Ads}
def sp_law_level : SpD := fun ds M Q _ => ∃ c : Nat, ds = [.str [c]] ∧ OpOk c ∧ Q (.int (lev c)) M
theorem ok_law_level (T : Txt w K mg A) : FnD P w K mg base 1 A.a_law_level A.d_law_level ["_law_sign"] sp_law_level := by
  refine fnD_of T.f_law_level sc_law_level (fun ds M Q E ⟨_, h, _⟩ => by rw [h]; rfl) (fun cdv A0 outer s H E hr => der_law_level T cdv A0 outer s H E hr) ?_
  rintro ds M Q E ⟨c, rfl, hc, k⟩
  show w_law_level A _ [some (.str [c])] M
  unfold w_law_level
  have e1 : ([QL.D.str (tx "="), QL.D.str (tx "<")].any fun x => deq x (.str [c])) = decide (c = 61 ∨ c = 60) := by
    simp only [List.any_cons, List.any_nil, deq_str, Bool.or_false]
    show (decide ([61] = [c]) || decide ([60] = [c])) = _
    by_cases h1 : c = 61 <;> by_cases h2 : c = 60 <;> simp [h1, h2, eq_comm]
  have e2 : ([QL.D.str (tx "+"), QL.D.str (tx "-")].any fun x => deq x (.str [c])) = decide (c = 43 ∨ c = 45) := by
    simp only [List.any_cons, List.any_nil, deq_str, Bool.or_false]
    show (decide ([43] = [c]) || decide ([45] = [c])) = _
    by_cases h1 : c = 43 <;> by_cases h2 : c = 45 <;> simp [h1, h2, eq_comm]
  (repeat (first | walk_at "q" | simp only [QL.D.ob.injEq, exists_and_left, exists_eq_left', MO.ins.injEq, Option.some.injEq, true_and, and_true, onL_same, upm_same, upm_upm]))
  intro l hl
  refine ⟨rfl, rfl, ?_⟩
  rw [e1]
  unfold lev at k
  refine ite2 (fun h => ?_) (fun h => ?_)
  · rw [if_pos (by simpa using h)] at k
    exact ⟨M, Sub.new hl (Sub.refl _), k⟩
  · rw [if_neg (by simpa using h)] at k
    intro l2 hl2
    refine ⟨rfl, rfl, ?_⟩
    rw [e2]
    have hl3 := (upm_none hl2).1
    have s2 : QL.Sub M (upm (upm M l (.lst [QL.D.str (tx "="), QL.D.str (tx "<")])) l2 (.lst [QL.D.str (tx "+"), QL.D.str (tx "-")])) := fun a o z => (upm_ne (mne z hl3)).trans ((upm_ne (mne z hl)).trans z)
    refine ite2 (fun h => ?_) (fun h => ?_)
    · rw [if_pos (by simpa using h)] at k
      exact ⟨M, s2, k⟩
    · rw [if_neg (by simpa using h)] at k
      exact ⟨M, s2, k⟩
def sp_law_expression_text (n : Nat) : SpD := fun ds M Q _ => ∃ (e : Ex) (lv : Nat), ds = [e.D, .int lv] ∧ e.ht ≤ n ∧ n ≤ 20 ∧ ExOk e ∧ Q (.str (txt lv e)) M
theorem ok_law_expression_text1 (T : Txt w K mg A) {n kc : Nat} {spc : SpD} (hk : 1 ≤ kc) (C : FnD P w K mg base kc A.a_law_expression_text A.d_law_expression_text ["_law_expression_here", "_law_level_here"] spc) (hc : ∀ m ds M Q E, n = m + 1 → sp_law_expression_text m ds M Q E → spc ds M Q E) :
    FnD P w K mg base (kc + 1) A.a_law_expression_text A.d_law_expression_text ["_law_expression_here", "_law_level_here"] (sp_law_expression_text n) := by
  refine fnD_of T.f_law_expression_text sc_law_expression_text (fun ds M Q E ⟨_, _, h, _⟩ => by rw [h]; rfl) (fun cdv A0 outer s H E hr => der_law_expression_text T (ok_law_level T) hk C (Nat.le_refl _) cdv A0 outer s H E hr) ?_
  rintro ds M Q E ⟨e, lv, rfl, hn, n20, he, k⟩
  show w_law_expression_text A _ _ _ [some e.D, some (.int lv), none, none, none] M
  unfold w_law_expression_text
  cases e with
  | num m =>
    simp only [Ex.D]
    (repeat (first | walk_at "q" | simp only [QL.D.ob.injEq, exists_and_left, exists_eq_left', MO.ins.injEq, Option.some.injEq, true_and, and_true, onL_same, upm_same, upm_upm, any_nv]))
    intro l hl
    refine ⟨rfl, rfl, Nat.lt_of_le_of_lt (show ((m : Nat) : Int).natAbs ≤ 1000000 by rw [Int.natAbs_natCast]; exact he) (Nat.lt_of_lt_of_le (show 1000000 < 2 ^ 20 by decide) (Nat.pow_le_pow_right (by decide) (by decide))), M, Sub.new hl (Sub.refl _), ?_⟩
    rw [tx_num]; exact k
  | var v =>
    have t0 : (decide (tx "variable" = tx "number") || decide (tx "variable" = tx "variable")) = true := by decide
    simp only [Ex.D]
    (repeat (first | walk_at "q" | simp only [QL.D.ob.injEq, exists_and_left, exists_eq_left', MO.ins.injEq, Option.some.injEq, true_and, and_true, onL_same, upm_same, upm_upm, any_nv, t0]))
    intro l hl
    exact ⟨rfl, rfl, M, Sub.new hl (Sub.refl _), k⟩
  | bin c a b =>
    have hn : 1 + max a.ht b.ht ≤ n := hn
    obtain ⟨m, rfl⟩ : ∃ m, n = m + 1 := ⟨n - 1, by omega⟩
    simp only [Ex.D]
    (repeat (first | walk_at "q" | simp only [QL.D.ob.injEq, exists_and_left, exists_eq_left', MO.ins.injEq, Option.some.injEq, true_and, and_true, onL_same, upm_same, upm_upm, any_nv, tag1]))
    intro l hl
    refine ⟨rfl, rfl, c, rfl, he.1, ?_⟩
    (repeat (first | walk_at "q" | simp only [QL.D.ob.injEq, exists_and_left, exists_eq_left', MO.ins.injEq, Option.some.injEq, true_and, and_true, onL_same, upm_same, upm_upm]))
    have e1 : max ((lev c : Nat) : Int) 1 = ((max (lev c) 1 : Nat) : Int) := by omega
    have e2 : ((lev c : Nat) : Int) + 1 = ((lev c + 1 : Nat) : Int) := by omega
    rw [e1, e2]
    have la := txt_len a (max (lev c) 1) he.2.1
    have lb := txt_len b (lev c + 1) he.2.2
    have pa : 2 ^ a.ht ≤ 2 ^ 19 := Nat.pow_le_pow_right (by decide) (by omega)
    have pb : 2 ^ b.ht ≤ 2 ^ 19 := Nat.pow_le_pow_right (by decide) (by omega)
    have esp : tx " " = [32] := rfl
    have eo : tx "(" = [40] := rfl
    have ec : tx ")" = [41] := rfl
    rw [esp, eo, ec]
    refine hc m _ _ _ _ rfl ⟨a, _, rfl, by omega, by omega, he.2.1, ?_⟩
    (repeat (first | walk_at "q" | simp only [QL.D.ob.injEq, exists_and_left, exists_eq_left', MO.ins.injEq, Option.some.injEq, true_and, and_true, onL_same, upm_same, upm_upm]))
    refine ⟨by rw [line_eq]; simp; omega, by rw [line_eq]; simp; omega, by rw [line_eq]; simp; omega, hc m _ _ _ _ rfl ⟨b, _, rfl, by omega, by omega, he.2.2, ?_⟩⟩
    (repeat (first | walk_at "q" | simp only [QL.D.ob.injEq, exists_and_left, exists_eq_left', MO.ins.injEq, Option.some.injEq, true_and, and_true, onL_same, upm_same, upm_upm]))
    refine ⟨by rw [line_eq]; simp; omega, ?_⟩
    have et : txt lv (.bin c a b) = par (decide (lev c < lv)) (txt (max (lev c) 1) a ++ 32 :: c :: 32 :: txt (lev c + 1) b) := rfl
    have ej : txt (max (lev c) 1) a ++ [32] ++ [c] ++ [32] ++ txt (lev c + 1) b = txt (max (lev c) 1) a ++ 32 :: c :: 32 :: txt (lev c + 1) b := by simp
    rw [et] at k
    rw [ej]
    refine ite2 (fun h => ?_) (fun h => ?_)
    · rw [decide_eq_true (show lev c < lv by omega)] at k
      refine ⟨by rw [line_eq]; simp; omega, by rw [line_eq]; simp; omega, M, Sub.new hl (Sub.refl _), ?_⟩
      exact k
    · rw [decide_eq_false (show ¬ lev c < lv by omega)] at k
      exact ⟨M, Sub.new hl (Sub.refl _), k⟩
theorem ok_law_expression_text (T : Txt w K mg A) : ∀ n : Nat, FnD P w K mg base (n + 2) A.a_law_expression_text A.d_law_expression_text ["_law_expression_here", "_law_level_here"] (sp_law_expression_text n)
  | 0 => ok_law_expression_text1 T (kc := 1) (Nat.le_refl _) FnD.none fun m _ _ _ _ h _ => by omega
  | n + 1 => ok_law_expression_text1 T (kc := n + 2) (by omega) (ok_law_expression_text T n) fun m ds M Q E h z => by
    obtain rfl : n = m := by omega
    exact z
end
section
variable {P : Program} {w : World} {K : PySem.W.Frag} {mg : Str → Option Value} {base : Heap} {A : Ads}
theorem repSp (n : Nat) : (List.replicate n [32]).flatten = List.replicate n 32 := by
  induction n with
  | zero => rfl
  | succ n ih => rw [List.replicate_succ, List.flatten_cons, ih, List.replicate_succ]; rfl
def sp_law_loose : SpD := fun ds M Q _ => ∃ (s p q : Addr) (xs : List Int) (t : Tx), ds = [.str t, .ob s] ∧ t.length ≤ 100000 ∧ Stm s p q xs M ∧ ∀ (u : Tx) (M' : Mp), lex u = lex t → u.length ≤ 3 * t.length + 3 → (∀ c ∈ u, c = 32 ∨ c ∈ t) → QL.Drawn s p q xs M M' → Q (.str u) M'
theorem ok_law_loose (T : Txt w K mg A) : FnD P w K mg base 2 A.a_law_loose A.d_law_loose ["_law_line", "_law_stream_here"] sp_law_loose := by
  refine fnD_of T.f_law_loose sc_law_loose (fun ds M Q E ⟨_, _, _, _, _, h, _⟩ => by rw [h]; rfl) (fun cdv A0 outer s H E hr => der_law_loose T (ok_law_next T) (Nat.le_refl _) cdv A0 outer s H E hr) ?_
  rintro ds M Q E ⟨s, p, q, xs, t, rfl, ht, S, k⟩
  show w_law_loose A _ _ [some (.str t), some (.ob s), none, none] M
  unfold w_law_loose
  (repeat (first | walk_at "q" | simp only [QL.D.ob.injEq, exists_and_left, exists_eq_left', MO.ins.injEq, Option.some.injEq, true_and, and_true, onL_same, upm_same, upm_upm]))
  have e0 : tx "" = [] := rfl
  have esp : tx " " = [32] := rfl
  have eS : tx "(){}:=+-*<" = SYM := rfl
  rw [e0, esp, eS]
  obtain ⟨I, hI⟩ : ∃ I : Nat → QL.Env → Mp → Prop, I = fun i δ M' => ∃ (u : Tx) (x : Option QL.D), δ = [some (.str t), some (.ob s), some (.str u), x] ∧ QL.Drawn s p q xs M M' ∧ Loose (t.take i) u ∧ u.length ≤ 3 * i ∧ ∀ c ∈ u, c = 32 ∨ c ∈ t := ⟨_, rfl⟩
  refine for_list I ?_ (fun _ _ _ _ _ => trivial) ?_ ?_
  · rw [hI]; exact ⟨[], none, rfl, S.drawn, .nil, Nat.le_refl _, fun c h => by cases h⟩
  · intro i d δ M1 hd h
    rw [hI] at h
    obtain ⟨u, x, rfl, D1, L, hl, hc32⟩ := h
    rw [List.getElem?_map] at hd
    obtain ⟨c, hc, rfl⟩ := Option.map_eq_some_iff.mp hd
    have hi : i < t.length := (List.getElem?_eq_some_iff.mp hc).1
    have hct : c ∈ t := List.mem_of_getElem? hc
    have tk : t.take (i + 1) = t.take i ++ [c] := by rw [List.take_add_one, hc]; rfl
    (repeat (first | walk_at "q" | simp only [QL.D.ob.injEq, exists_and_left, exists_eq_left', MO.ins.injEq, Option.some.injEq, true_and, and_true, onL_same, upm_same, upm_upm]))
    refine ⟨rfl, rfl, ite2 (fun h => ?_) (fun h => ?_)⟩
    · obtain rfl : c = 32 := by simpa using h
      refine next_ok D1.2 (by decide) fun v M2 a2 b2 d2 => ?_
      (repeat (first | walk_at "q" | simp only [QL.D.ob.injEq, exists_and_left, exists_eq_left', MO.ins.injEq, Option.some.injEq, true_and, and_true, onL_same, upm_same, upm_upm]))
      have ev : ((1 : Int) + (v : Int)).toNat = 1 + v := by omega
      rw [ev, repSp, line_eq]
      refine ⟨⟨by omega, by omega, by simp; omega, by simp⟩, by simp; omega, ?_⟩
      rw [hI]
      refine ⟨_, _, rfl, D1.trans d2, ?_, by simp; omega, fun c h => ?_⟩
      · rw [tk]; exact L.snoc_sp v
      · rcases List.mem_append.mp h with h | h
        · exact hc32 c h
        · exact .inl (List.mem_replicate.mp h).2
    · refine ite2 (fun h1 => ?_) (fun h1 => ?_)
      · have h1 : c ∈ SYM := by simpa using h1
        refine next_ok D1.2 (by decide) fun v M2 a2 b2 d2 => ?_
        (repeat (first | walk_at "q" | simp only [QL.D.ob.injEq, exists_and_left, exists_eq_left', MO.ins.injEq, Option.some.injEq, true_and, and_true, onL_same, upm_same, upm_upm]))
        have ev : ((v : Int)).toNat = v := by omega
        rw [ev, repSp, line_eq]
        refine ⟨⟨by omega, by omega, by simp; omega, by simp⟩, by simp; omega, by simp; omega, ?_⟩
        refine next_ok d2.2 (by decide) fun v2 M3 a3 b3 d3 => ?_
        (repeat (first | walk_at "q" | simp only [QL.D.ob.injEq, exists_and_left, exists_eq_left', MO.ins.injEq, Option.some.injEq, true_and, and_true, onL_same, upm_same, upm_upm]))
        have ev2 : ((v2 : Int)).toNat = v2 := by omega
        rw [ev2, repSp, line_eq]
        refine ⟨⟨by omega, by omega, by simp; omega, by simp⟩, by simp; omega, ?_⟩
        rw [hI]
        refine ⟨_, _, rfl, (D1.trans d2).trans d3, ?_, by simp; omega, fun y h => ?_⟩
        · rw [tk]; exact L.snoc_sym h1 v v2
        · simp only [List.mem_append, List.mem_replicate, List.mem_singleton] at h
          rcases h with ((h | h) | h) | h
          · exact hc32 y h
          · exact .inl h.2
          · exact .inr (h ▸ hct)
          · exact .inl h.2
      · refine ⟨by rw [line_eq]; simp; omega, ?_⟩
        rw [hI]
        refine ⟨_, _, rfl, D1, ?_, by simp; omega, fun y h => ?_⟩
        · rw [tk]; exact L.snoc_oth
        · rcases List.mem_append.mp h with h | h
          · exact hc32 y h
          · exact .inr (List.mem_singleton.mp h ▸ hct)
  · intro δ M1 h
    rw [hI] at h
    obtain ⟨u, x, rfl, D1, L, hl, hc32⟩ := h
    rw [List.length_map] at L hl
    rw [List.take_length] at L
    (repeat (first | walk_at "q" | simp only [QL.D.ob.injEq, exists_and_left, exists_eq_left', MO.ins.injEq, Option.some.injEq, true_and, and_true, onL_same, upm_same, upm_upm]))
    refine next_ok D1.2 (by decide) fun v M2 a2 b2 d2 => ?_
    (repeat (first | walk_at "q" | simp only [QL.D.ob.injEq, exists_and_left, exists_eq_left', MO.ins.injEq, Option.some.injEq, true_and, and_true, onL_same, upm_same, upm_upm]))
    have ev : ((v : Int)).toNat = v := by omega
    rw [ev, repSp, line_eq]
    refine ⟨⟨by omega, by omega, by simp; omega, by simp⟩, by simp; omega, ?_⟩
    refine next_ok d2.2 (by decide) fun v2 M3 a3 b3 d3 => ?_
    (repeat (first | walk_at "q" | simp only [QL.D.ob.injEq, exists_and_left, exists_eq_left', MO.ins.injEq, Option.some.injEq, true_and, and_true, onL_same, upm_same, upm_upm]))
    have ev2 : ((v2 : Int)).toNat = v2 := by omega
    rw [ev2, repSp, line_eq]
    refine ⟨⟨by omega, by omega, by simp; omega, by simp⟩, by simp; omega, M3, Sub.refl _, ?_⟩
    refine k _ _ (loose_all L v v2) (by simp; omega) (fun y h => ?_) ((D1.trans d2).trans d3)
    simp only [List.mem_append, List.mem_replicate] at h
    rcases h with (h | h) | h
    · exact .inl h.2
    · exact hc32 y h
    · exact .inl h.2
end
section
variable {P : Program} {w : World} {K : PySem.W.Frag} {mg : Str → Option Value} {base : Heap} {A : Ads}
def sp_law_deed_text : SpD := fun ds M Q _ => ∃ d : Dd, ds = [d.D] ∧ ExOk d.ex ∧ d.ex.ht ≤ 5 ∧ (∀ v e, d = .set v e → v.length ≤ 20) ∧ Q (.str (ddTx d)) M
theorem ok_law_deed_text (T : Txt w K mg A) : FnD P w K mg base 8 A.a_law_deed_text A.d_law_deed_text ["_law_deed_here"] sp_law_deed_text := by
  refine fnD_of T.f_law_deed_text sc_law_deed_text (fun ds M Q E ⟨_, h, _⟩ => by rw [h]; rfl) (fun cdv A0 outer s H E hr => der_law_deed_text T (ok_law_expression_text T 5) (Nat.le_refl _) cdv A0 outer s H E hr) ?_
  rintro ds M Q E ⟨d, rfl, he, hh, hv, k⟩
  show w_law_deed_text A _ _ [some d.D] M
  unfold w_law_deed_text
  have c1 : ¬ tx "print" = tx "set" := by decide
  have c2 : ¬ tx "if" = tx "set" := by decide
  have l1 : (tx " = ").length = 3 := rfl
  have l2 : (tx "print").length = 5 := rfl
  have l3 : (tx "if").length = 2 := rfl
  have l4 : (tx " ").length = 1 := rfl
  have sz := sizeLine_eq
  have tl := txt_len d.ex 0 he
  have p5 : 2 ^ d.ex.ht ≤ 2 ^ 5 := Nat.pow_le_pow_right (by decide) hh
  cases d with
  | set v e =>
    simp only [Dd.D]
    have hv1 := hv v e rfl
    have t : (txt 0 e).length ≤ 480 := by have : (txt 0 e).length + 5 ≤ 15 * 2 ^ e.ht := tl; have : 2 ^ e.ht ≤ 2 ^ 5 := p5; omega
    (repeat (first | walk_at "q" | simp only [QL.D.ob.injEq, exists_and_left, exists_eq_left', MO.ins.injEq, Option.some.injEq, true_and, and_true, onL_same, upm_same, upm_upm, List.nil_append]))
    simp only [List.length_append, l1]
    refine ⟨rfl, rfl, by omega, e, 0, rfl, hh, by decide, he, ?_⟩
    (repeat (first | walk_at "q" | simp only [QL.D.ob.injEq, exists_and_left, exists_eq_left', MO.ins.injEq, Option.some.injEq, true_and, and_true, onL_same, upm_same, upm_upm]))
    refine ⟨by first | omega | (simp only [List.length_append, l1]; omega), M, Sub.refl _, k⟩
  | prt e =>
    simp only [Dd.D]
    have t : (txt 0 e).length ≤ 480 := by have : (txt 0 e).length + 5 ≤ 15 * 2 ^ e.ht := tl; have : 2 ^ e.ht ≤ 2 ^ 5 := p5; omega
    (repeat (first | walk_at "q" | simp only [QL.D.ob.injEq, exists_and_left, exists_eq_left', MO.ins.injEq, Option.some.injEq, true_and, and_true, onL_same, upm_same, upm_upm, c1, List.nil_append]))
    simp only [List.length_append, l2, l4]
    refine ⟨rfl, rfl, by omega, e, 0, rfl, hh, by decide, he, ?_⟩
    (repeat (first | walk_at "q" | simp only [QL.D.ob.injEq, exists_and_left, exists_eq_left', MO.ins.injEq, Option.some.injEq, true_and, and_true, onL_same, upm_same, upm_upm]))
    refine ⟨by first | omega | (simp only [List.length_append, l2, l4]; omega), M, Sub.refl _, k⟩
  | cnd e =>
    simp only [Dd.D]
    have t : (txt 0 e).length ≤ 480 := by have : (txt 0 e).length + 5 ≤ 15 * 2 ^ e.ht := tl; have : 2 ^ e.ht ≤ 2 ^ 5 := p5; omega
    (repeat (first | walk_at "q" | simp only [QL.D.ob.injEq, exists_and_left, exists_eq_left', MO.ins.injEq, Option.some.injEq, true_and, and_true, onL_same, upm_same, upm_upm, c2, List.nil_append]))
    simp only [List.length_append, l3, l4]
    refine ⟨rfl, rfl, by omega, e, 0, rfl, hh, by decide, he, ?_⟩
    (repeat (first | walk_at "q" | simp only [QL.D.ob.injEq, exists_and_left, exists_eq_left', MO.ins.injEq, Option.some.injEq, true_and, and_true, onL_same, upm_same, upm_upm]))
    refine ⟨by first | omega | (simp only [List.length_append, l3, l4]; omega), M, Sub.refl _, k⟩
end
section
variable {P : Program} {w : World} {K : PySem.W.Frag} {mg : Str → Option Value} {base : Heap} {A : Ads}
def sp_law_is_integer : SpD := fun ds M Q _ => ∃ i : Int, ds = [.int i] ∧ Q (.bl true) M
theorem ok_law_is_integer (T : Txt w K mg A) : FnD P w K mg base 1 A.a_law_is_integer A.d_law_is_integer ["_law_actual"] sp_law_is_integer := by
  refine fnD_of T.f_law_is_integer sc_law_is_integer (fun ds M Q E ⟨_, h, _⟩ => by rw [h]; rfl) (fun cdv A0 outer s H E hr => der_law_is_integer T cdv A0 outer s H E hr) ?_
  rintro ds M Q E ⟨i, rfl, q⟩
  show w_law_is_integer A _ [some (.int i)] M
  unfold w_law_is_integer
  walk_at "q"
  exact ⟨M, Sub.refl _, q⟩
/-- True of equal data -/
def sp_law_same (n : Nat) : SpD := fun ds M Q _ => Q (.bl true) M ∧ ((∃ d : QL.D, ds = [d, d] ∧ okN n d = true ∧ okL d = true ∧ n ≤ 60) ∨
  ∃ (a b : Addr) (xs : List QL.D), ds = [.ob a, .ob b] ∧ M a = some (.lst xs) ∧ M b = some (.lst xs) ∧ okN.okNs (n - 1) xs = true ∧ okL.okLs xs = true ∧ xs.length ≤ 1000000 ∧ 1 ≤ n ∧ n ≤ 60)
theorem ok_law_same (T : Txt w K mg A) : ∀ n, FnD P w K mg base (n + 2) A.a_law_same A.d_law_same ["_law_actual", "_law_expected"] (sp_law_same n) := by
  intro n
  obtain ⟨sp, hsp, G⟩ : ∃ sp : SpD, (∀ (d : QL.D) (M : Mp) (Q : KD) (E : XKD), 1 ≤ n → okN (n - 1) d = true → okL d = true → n ≤ 60 → Q (.bl true) M → sp [d, d] M Q E) ∧ FnD P w K mg base (n + 1) A.a_law_same A.d_law_same ["_law_actual", "_law_expected"] sp := by
    cases n with
    | zero => exact ⟨_, fun _ _ _ _ h => by omega, FnD.none⟩
    | succ n => exact ⟨sp_law_same n, fun d M Q E _ h1 h2 h3 q => ⟨q, .inl ⟨d, rfl, h1, h2, by omega⟩⟩, ok_law_same T n⟩
  refine fnD_of T.f_law_same sc_law_same (fun ds M Q E ⟨_, h⟩ => ?_) (fun cdv A0 outer s H E hr => der_law_same T (ok_law_is_integer T) (by omega) G (Nat.le_refl _) cdv A0 outer s H E hr) ?_
  · rcases h with ⟨_, h, _⟩ | ⟨_, _, _, h, _⟩ <;> rw [h] <;> rfl
  rintro ds M Q E ⟨q, h⟩
  have row : ∀ (d e : QL.D) (xs : List QL.D), okN.okNs (n - 1) xs = true → okL.okLs xs = true → xs.length ≤ 1000000 → 1 ≤ n → n ≤ 60 →
      (∀ (i : Nat) (x : QL.D) (Q' : KD), xs[i]? = some x → Q' x M → ixD d (.int i) M Q') → (∀ (i : Nat) (x : QL.D) (Q' : KD), xs[i]? = some x → Q' x M → ixD e (.int i) M Q') →
      ForOk ⟨rngD 0 (xs.length : Int).toNat, fun _ => True⟩ (gN 2) (wIfS (QL.wNot (QL.wTru (wCall sp (wCons (wOp ixD (wVar 0) (wVar 2)) (wCons (wOp ixD (wVar 1) (wVar 2)) wNil))))) (wRet (wC (.bl false))) wNext)
        { nx := wRet (wC (.bl true)) { nx := fun _ M' => endR Q .non M', rt := endR Q, xx := endX E }, rt := endR Q, xx := endX E } [some d, some e, none] M := by
    intro d e xs h1 h2 h3 h4 h5 hd he
    obtain ⟨I, hI⟩ : ∃ I : Nat → QL.Env → Mp → Prop, I = fun i δ M' => ∃ a : Option QL.D, δ = [some d, some e, a] ∧ M' = M := ⟨_, rfl⟩
    refine for_rng I ?_ ?_ ?_
    · rw [hI]; exact ⟨none, rfl, rfl⟩
    · intro i δ M' hi h
      rw [hI] at h
      obtain ⟨a, rfl, rfl⟩ := h
      have hi : i < xs.length := by simpa using hi
      have hx : xs[i]? = some xs[i] := by simp [hi]
      rw [Int.zero_add]
      walk_at "q"
      refine hd i _ _ hx (he i _ _ hx (hsp _ _ _ _ h4 (okNs_get h1 hx) (okLs_get h2 hx) h5 ?_))
      walk_at "q"
      rw [hI]; exact ⟨_, rfl, rfl⟩
    · intro δ M' h
      rw [hI] at h
      obtain ⟨a, rfl, rfl⟩ := h
      walk_at "q"
      exact ⟨_, Sub.refl _, q⟩
  have q' : endR Q (.bl true) M := ⟨M, Sub.refl _, q⟩
  have bnd : ∀ xs : List QL.D, xs.length ≤ 1000000 → -(2 ^ 62) ≤ (xs.length : Int) ∧ (xs.length : Int) < 2 ^ 62 := fun xs h => by omega
  rcases h with ⟨d, rfl, h1, h2, h3⟩ | ⟨a, b, xs, rfl, ha, hb, h1, h2, h3, h4, h5⟩
  · show w_law_same A _ _ _ [some d, some d, none] M
    have h64 : okN 64 d = true := okN_mono h1 (by omega)
    have hself := deq_self h1
    unfold w_law_same
    cases d with
    | non => walk_at "q"; exact q'
    | bl v => walk_at "q"; exact ⟨rfl, rfl, by simpa using q'⟩
    | int v => walk_at "q"; exact ⟨v, rfl, by walk_at "q"; exact ⟨rfl, rfl, by simpa using q'⟩⟩
    | str v => walk_at "q"; exact ⟨rfl, rfl, by simpa using q'⟩
    | tup xs =>
      have z : 1 ≤ n := by
        cases n with
        | zero => simp [okN] at h1
        | succ n => omega
      have h1' : okN.okNs (n - 1) xs = true := by
        obtain ⟨m, rfl⟩ : ∃ m, n = m + 1 := ⟨n - 1, by omega⟩
        simpa [okN] using h1
      have h2' : xs.length ≤ 1000000 ∧ okL.okLs xs = true := by simpa [okL] using h2
      walk_at "q"
      refine ⟨rfl, rfl, ?_⟩
      rw [if_neg (by simp)]
      exact ⟨bnd xs h2'.1, row _ _ xs h1' h2'.2 h2'.1 z h3 (fun i x Q' e k => ⟨x, by rw [atI_cast]; exact e, k⟩) (fun i x Q' e k => ⟨x, by rw [atI_cast]; exact e, k⟩)⟩
    | fl xs =>
      have z : 1 ≤ n := by
        cases n with
        | zero => simp [okN] at h1
        | succ n => omega
      have h1' : okN.okNs (n - 1) xs = true := by
        obtain ⟨m, rfl⟩ : ∃ m, n = m + 1 := ⟨n - 1, by omega⟩
        simpa [okN] using h1
      have h2' : xs.length ≤ 1000000 ∧ okL.okLs xs = true := by simpa [okL] using h2
      walk_at "q"
      refine ⟨rfl, rfl, ?_⟩
      rw [if_neg (by simp)]
      exact ⟨bnd xs h2'.1, row _ _ xs h1' h2'.2 h2'.1 z h3 (fun i x Q' e k => ⟨x, by rw [atI_cast]; exact e, k⟩) (fun i x Q' e k => ⟨x, by rw [atI_cast]; exact e, k⟩)⟩
    | ob a => simp [okN] at h1
    | ty v => simp [okN] at h1
    | any => simp [okN] at h1
  · show w_law_same A _ _ _ [some (.ob a), some (.ob b), none] M
    have aL : ∀ {k : List QL.D → Prop}, onL M a k = k xs := onL_of ha
    have bL : ∀ {k : List QL.D → Prop}, onL M b k = k xs := onL_of hb
    have aT : ∀ {k : String → Prop}, tyN (.ob a) M k = k "list" := fun {k} => tyN_list ha
    have bT : ∀ {k : String → Prop}, tyN (.ob b) M k = k "list" := fun {k} => tyN_list hb
    unfold w_law_same
    repeat (first | walk_at "q" | simp only [aL, bL, aT, bT])
    refine ⟨rfl, rfl, ?_⟩
    rw [if_neg (by simp)]
    repeat (first | walk_at "q" | simp only [aL, bL, aT, bT])
    exact ⟨bnd xs h3, row _ _ xs h1 h2 h3 h4 h5 (fun i x Q' e k => ⟨xs, ha, x, by rw [atI_cast]; exact e, k⟩) (fun i x Q' e k => ⟨xs, hb, x, by rw [atI_cast]; exact e, k⟩)⟩
end
section
variable {P : Program} {w : World} {K : PySem.W.Frag} {mg : Str → Option Value} {base : Heap} {A : Ads}
def sp_read_labelled (A : Ads) : SpD := fun ds M Q E => ∃ (r a : Addr) (all ts : List Tk), ds = [.ob r] ∧ Rdr A r a all ts M ∧ (∀ k rest, labdP ts = some (k, rest) → rest <:+ all → Q k.D (rdM A r a all rest M)) ∧ (labdP ts = none → ErrR A r M E)
theorem ok_read_labelled (T : Txt w K mg A) : FnD P w K mg base 90 A.a_read_labelled A.d_read_labelled ["reader"] (sp_read_labelled A) := by
  refine fnD_of T.f_read_labelled sc_read_labelled (fun ds M Q E ⟨_, _, _, _, h, _⟩ => by rw [h]; rfl) (fun cdv A0 outer s H E hr => der_read_labelled T (ok_Reader_take_label T) (by decide) (ok_Reader_expect T) (by decide) (ok_read_deed T) (by decide) cdv A0 outer s H E hr) ?_
  rintro ds M Q E ⟨r, a, all, ts, rfl, R, k1, k2⟩
  show w_read_labelled A _ _ _ _ [some (.ob r), none, none] M
  unfold w_read_labelled
  have X0 : ∀ o, Ext r M (upm M r o) := fun o => (Ext.refl r M).at
  have bad : labdP ts = none → ∀ (δ : QL.Env) o M', Ext r (upm M r o) M' → endX E ⟨A.c_BadLine, []⟩ δ M' := fun h δ o M' hM => ⟨M', Sub.refl _, k2 h M' ((X0 o).trans hM)⟩
  (repeat (first | walk_at "q" | simp only [QL.D.ob.injEq, exists_and_left, exists_eq_left', MO.ins.injEq, Option.some.injEq, true_and, and_true, onL_same, upm_same, upm_upm, R.i, rdF_m7]))
  refine lbl_ok R (fun l r1 h1 => ?_) (fun hn M' hM => ⟨M', Sub.refl _, k2 (by unfold labdP; rw [hn]; rfl) M' hM⟩)
  have R1 := R.to (us := r1) (R.suf (lblP_suf h1).1)
  (repeat (first | walk_at "q" | simp only [QL.D.ob.injEq, exists_and_left, exists_eq_left', MO.ins.injEq, Option.some.injEq, true_and, and_true, onL_same, upm_same, upm_upm, R1.i, rdF_m4]))
  have n1 : labdP ts = (expP (.y 58) r1).bind fun r1 => (deedP r1).bind (labdR l) := by unfold labdP; rw [h1]; rfl
  refine exp_ok (.y 58) rfl R1 (fun r2 h2 => ?_) (fun hn => bad (by rw [n1, hn]; rfl) _ _)
  rw [h2] at n1
  have R2 := R1.to2 (us := r2) (R1.suf (expP_suf h2))
  (repeat (first | walk_at "q" | simp only [QL.D.ob.injEq, exists_and_left, exists_eq_left', MO.ins.injEq, Option.some.injEq, true_and, and_true, onL_same, upm_same, upm_upm]))
  have n2 : labdP ts = (deedP r2).bind (labdR l) := n1
  clear n1
  refine ⟨r, a, all, r2, rfl, R2, fun d r3 h3 s3 => ?_, fun hn => bad (by rw [n2, hn]; rfl) _ _⟩
  have R3 := R2.to2 (us := r3) s3
  have n3 : labdP ts = labdR l (d, r3) := by rw [n2, h3]; rfl
  clear n2
  have c1 : ¬ tx "set" = tx "if" := by decide
  have c2 : ¬ tx "print" = tx "if" := by decide
  cases d with
  | set v e =>
    simp only [Dd.D]
    (repeat (first | walk_at "q" | simp only [QL.D.ob.injEq, exists_and_left, exists_eq_left', MO.ins.injEq, Option.some.injEq, true_and, and_true, onL_same, upm_same, upm_upm, c1]))
    exact ⟨rfl, rfl, _, Sub.refl _, k1 (.stm (.node l (.set v e))) r3 n3 s3⟩
  | prt e =>
    simp only [Dd.D]
    (repeat (first | walk_at "q" | simp only [QL.D.ob.injEq, exists_and_left, exists_eq_left', MO.ins.injEq, Option.some.injEq, true_and, and_true, onL_same, upm_same, upm_upm, c2]))
    exact ⟨rfl, rfl, _, Sub.refl _, k1 (.stm (.node l (.prt e))) r3 n3 s3⟩
  | cnd e =>
    simp only [Dd.D]
    (repeat (first | walk_at "q" | simp only [QL.D.ob.injEq, exists_and_left, exists_eq_left', MO.ins.injEq, Option.some.injEq, true_and, and_true, onL_same, upm_same, upm_upm, R3.i, rdF_m4]))
    refine ⟨rfl, rfl, ?_⟩
    have n3 : labdP ts = (expP (.y 123) r3).map fun r => (.opn (.cond l e), r) := n3
    refine exp_ok (.y 123) rfl R3 (fun r4 h4 => ?_) (fun hn => bad (by rw [n3, hn]; rfl) _ _)
    have s4 := R3.suf (expP_suf h4)
    (repeat (first | walk_at "q" | simp only [QL.D.ob.injEq, exists_and_left, exists_eq_left', MO.ins.injEq, Option.some.injEq, true_and, and_true, onL_same, upm_same, upm_upm]))
    exact ⟨_, Sub.refl _, k1 (.opn (.cond l e)) r4 (by rw [n3, h4]; rfl) s4⟩
theorem wp_jump (c : Bool) {ts : List Tk} : wordP (.w (jmW c) :: ts) = (lblP ts).map fun l => (.stm (.jump c l.1), l.2) := by
  have n1 : jmW c ≠ tx "exit" := by cases c <;> decide
  have n2 : jmW c = tx "break" ∨ jmW c = tx "continue" := by cases c <;> decide
  have n4 : decide (jmW c = tx "continue") = c := by cases c <;> decide
  unfold wordP
  simp only [if_neg n1, if_pos n2, n4]
theorem wp_scope (lp : Bool) {ts : List Tk} : wordP (.w (scW lp) :: ts) = (lblP ts).bind fun l => (expP (.y 123) l.2).map fun r2 => (.opn (.scope lp l.1), r2) := by
  have n1 : scW lp ≠ tx "exit" := by cases lp <;> decide
  have n2 : ¬ (scW lp = tx "break" ∨ scW lp = tx "continue") := by cases lp <;> decide
  have n3 : scW lp = tx "block" ∨ scW lp = tx "loop" := by cases lp <;> decide
  have n4 : decide (scW lp = tx "loop") = lp := by cases lp <;> decide
  unfold wordP
  simp only [if_neg n1, if_neg n2, if_pos n3, n4]
def sp_read_worded (A : Ads) : SpD := fun ds M Q E => ∃ (r a : Addr) (all ts : List Tk) (v : Tx), ds = [.ob r] ∧ v ∈ WDS ∧ Rdr A r a all (.w v :: ts) M ∧ (∀ k rest, wordP (.w v :: ts) = some (k, rest) → rest <:+ all → Q k.D (rdM A r a all rest M)) ∧ (wordP (.w v :: ts) = none → ErrR A r M E)
theorem ok_read_worded (T : Txt w K mg A) : FnD P w K mg base 4 A.a_read_worded A.d_read_worded ["reader"] (sp_read_worded A) := by
  refine fnD_of T.f_read_worded sc_read_worded (fun ds M Q E ⟨_, _, _, _, _, h, _⟩ => by rw [h]; rfl) (fun cdv A0 outer s H E hr => der_read_worded T (ok_Reader_take T) (by decide) (ok_Reader_take_label T) (by decide) (ok_Reader_expect T) (by decide) cdv A0 outer s H E hr) ?_
  rintro ds M Q E ⟨r, a, all, ts, v, rfl, hv, R, k1, k2⟩
  show w_read_worded A _ _ _ _ [some (.ob r), none, none] M
  unfold w_read_worded
  have X0 : ∀ o, Ext r M (upm M r o) := fun o => (Ext.refl r M).at
  have bad : wordP (.w v :: ts) = none → ∀ (δ : QL.Env) o M', Ext r (upm M r o) M' → endX E ⟨A.c_BadLine, []⟩ δ M' := fun h δ o M' hM => ⟨M', Sub.refl _, k2 h M' ((X0 o).trans hM)⟩
  (repeat (first | walk_at "q" | simp only [QL.D.ob.injEq, exists_and_left, exists_eq_left', MO.ins.injEq, Option.some.injEq, true_and, and_true, onL_same, upm_same, upm_upm, R.i, rdF_m2]))
  refine ⟨r, a, all, .w v :: ts, rfl, R, fun t rest h => ?_, fun h => by cases h⟩
  injection h with h1 h2
  subst h1; subst h2
  have R1 := R.to (us := ts) R.tl.1
  simp only [Tk.D, dW]
  have c1 : ¬ tx "break" = tx "exit" := by decide
  have c2 : ¬ tx "continue" = tx "exit" := by decide
  have c3 : ¬ tx "block" = tx "exit" := by decide
  have c4 : ¬ tx "loop" = tx "exit" := by decide
  have d1 : [QL.D.str (tx "break"), QL.D.str (tx "continue")].any (fun x => deq x (.str (tx "break"))) = true := by simp only [List.any_cons, deq_str]; decide
  have d2 : [QL.D.str (tx "break"), QL.D.str (tx "continue")].any (fun x => deq x (.str (tx "continue"))) = true := by simp only [List.any_cons, deq_str]; decide
  have d3 : [QL.D.str (tx "break"), QL.D.str (tx "continue")].any (fun x => deq x (.str (tx "block"))) = false := by simp only [List.any_cons, List.any_nil, deq_str]; decide
  have d4 : [QL.D.str (tx "break"), QL.D.str (tx "continue")].any (fun x => deq x (.str (tx "loop"))) = false := by simp only [List.any_cons, List.any_nil, deq_str]; decide
  have f1 : [QL.D.str (tx "block"), QL.D.str (tx "loop")].any (fun x => deq x (.str (tx "block"))) = true := by simp only [List.any_cons, deq_str]; decide
  have f2 : [QL.D.str (tx "block"), QL.D.str (tx "loop")].any (fun x => deq x (.str (tx "loop"))) = true := by simp only [List.any_cons, deq_str]; decide
  simp only [WDS, List.mem_cons, List.not_mem_nil, or_false] at hv
  rcases hv with rfl | rfl | rfl | rfl | rfl
  · (repeat (first | walk_at "q" | simp only [QL.D.ob.injEq, exists_and_left, exists_eq_left', MO.ins.injEq, Option.some.injEq, true_and, and_true, onL_same, upm_same, upm_upm]))
    exact ⟨rfl, rfl, _, Sub.refl _, k1 (.stm .exit) ts (by unfold wordP; simp only [if_true]) R.tl.1⟩
  · have wb : wordP (.w (tx "break") :: ts) = (lblP ts).map fun l => (.stm (.jump false l.1), l.2) := wp_jump false
    (repeat (first | walk_at "q" | simp only [QL.D.ob.injEq, exists_and_left, exists_eq_left', MO.ins.injEq, Option.some.injEq, true_and, and_true, onL_same, upm_same, upm_upm, c1, d1]))
    refine ⟨rfl, rfl, rfl, rfl, rdF_m7, lbl_ok R1 (fun l r1 h1 => ?_) (fun hn => bad (by rw [wb, hn]; rfl) _ _)⟩
    (repeat (first | walk_at "q" | simp only [QL.D.ob.injEq, exists_and_left, exists_eq_left', MO.ins.injEq, Option.some.injEq, true_and, and_true, onL_same, upm_same, upm_upm]))
    exact ⟨_, Sub.refl _, k1 (.stm (.jump false l)) r1 (by rw [wb, h1]; rfl) (R1.suf (lblP_suf h1).1)⟩
  · have wb : wordP (.w (tx "continue") :: ts) = (lblP ts).map fun l => (.stm (.jump true l.1), l.2) := wp_jump true
    (repeat (first | walk_at "q" | simp only [QL.D.ob.injEq, exists_and_left, exists_eq_left', MO.ins.injEq, Option.some.injEq, true_and, and_true, onL_same, upm_same, upm_upm, c2, d2]))
    refine ⟨rfl, rfl, rfl, rfl, rdF_m7, lbl_ok R1 (fun l r1 h1 => ?_) (fun hn => bad (by rw [wb, hn]; rfl) _ _)⟩
    (repeat (first | walk_at "q" | simp only [QL.D.ob.injEq, exists_and_left, exists_eq_left', MO.ins.injEq, Option.some.injEq, true_and, and_true, onL_same, upm_same, upm_upm]))
    exact ⟨_, Sub.refl _, k1 (.stm (.jump true l)) r1 (by rw [wb, h1]; rfl) (R1.suf (lblP_suf h1).1)⟩
  · have wb : wordP (.w (tx "block") :: ts) = (lblP ts).bind fun l => (expP (.y 123) l.2).map fun r2 => (.opn (.scope false l.1), r2) := wp_scope false
    (repeat (first | walk_at "q" | simp only [QL.D.ob.injEq, exists_and_left, exists_eq_left', MO.ins.injEq, Option.some.injEq, true_and, and_true, onL_same, upm_same, upm_upm, c3, d3, f1]))
    refine ⟨rfl, rfl, rfl, rfl, rfl, rfl, rdF_m7, lbl_ok R1 (fun l r1 h1 => ?_) (fun hn => bad (by rw [wb, hn]; rfl) _ _)⟩
    have R2 := R1.to2 (us := r1) (R1.suf (lblP_suf h1).1)
    (repeat (first | walk_at "q" | simp only [QL.D.ob.injEq, exists_and_left, exists_eq_left', MO.ins.injEq, Option.some.injEq, true_and, and_true, onL_same, upm_same, upm_upm, R2.i, rdF_m4]))
    refine exp_ok (.y 123) rfl R2 (fun r2 h2 => ?_) (fun hn => bad (by rw [wb, h1]; show (expP _ r1).map _ = _; rw [hn]; rfl) _ _)
    (repeat (first | walk_at "q" | simp only [QL.D.ob.injEq, exists_and_left, exists_eq_left', MO.ins.injEq, Option.some.injEq, true_and, and_true, onL_same, upm_same, upm_upm]))
    exact ⟨_, Sub.refl _, k1 (.opn (.scope false l)) r2 (by rw [wb, h1]; show (expP _ r1).map _ = _; rw [h2]; rfl) (R2.suf (expP_suf h2))⟩
  · have wb : wordP (.w (tx "loop") :: ts) = (lblP ts).bind fun l => (expP (.y 123) l.2).map fun r2 => (.opn (.scope true l.1), r2) := wp_scope true
    (repeat (first | walk_at "q" | simp only [QL.D.ob.injEq, exists_and_left, exists_eq_left', MO.ins.injEq, Option.some.injEq, true_and, and_true, onL_same, upm_same, upm_upm, c4, d4, f2]))
    refine ⟨rfl, rfl, rfl, rfl, rfl, rfl, rdF_m7, lbl_ok R1 (fun l r1 h1 => ?_) (fun hn => bad (by rw [wb, hn]; rfl) _ _)⟩
    have R2 := R1.to2 (us := r1) (R1.suf (lblP_suf h1).1)
    (repeat (first | walk_at "q" | simp only [QL.D.ob.injEq, exists_and_left, exists_eq_left', MO.ins.injEq, Option.some.injEq, true_and, and_true, onL_same, upm_same, upm_upm, R2.i, rdF_m4]))
    refine exp_ok (.y 123) rfl R2 (fun r2 h2 => ?_) (fun hn => bad (by rw [wb, h1]; show (expP _ r1).map _ = _; rw [hn]; rfl) _ _)
    (repeat (first | walk_at "q" | simp only [QL.D.ob.injEq, exists_and_left, exists_eq_left', MO.ins.injEq, Option.some.injEq, true_and, and_true, onL_same, upm_same, upm_upm]))
    exact ⟨_, Sub.refl _, k1 (.opn (.scope true l)) r2 (by rw [wb, h1]; show (expP _ r1).map _ = _; rw [h2]; rfl) (R2.suf (expP_suf h2))⟩
theorem any_wd (ts : List Tk) : ((WDS.map fun v => (Tk.w v).D).any fun x => deq x (hdD ts)) = isWd ts := by
  have e : ∀ v, deq (Tk.w v).D (hdD ts) = decide (ts.head? = some (.w v)) := fun v => deq_hd' ts (.w v)
  have e2 : ((WDS.map fun v => (Tk.w v).D).any fun x => deq x (hdD ts)) = WDS.any fun v => decide (ts.head? = some (.w v)) := by
    rw [List.any_map]
    congr 1
    funext v
    exact e v
  rw [e2]
  cases ts with
  | nil => rfl
  | cons t r =>
    cases t with
    | w v => simp [isWd, WDS, eq_comm]
    | n n => simp [isWd, WDS]
    | y c => simp [isWd, WDS]
def sp_read_line (A : Ads) : SpD := fun ds M Q E => ∃ l : Tx, ds = [.str l] ∧ l.length ≤ 1000000 ∧ (∀ k, LineIs lineP l k → Q k.D M) ∧ (NoLine lineP l → E ⟨A.c_BadLine, []⟩ M)
theorem ok_read_line (T : Txt w K mg A) : FnD P w K mg base 91 A.a_read_line A.d_read_line ["line"] (sp_read_line A) := by
  refine fnD_of T.f_read_line sc_read_line (fun ds M Q E ⟨_, h, _⟩ => by rw [h]; rfl) (fun cdv A0 outer s H E hr => der_read_line T (ok_Reader__init T) (by decide) (ok_signs_of T) (by decide) (ok_Reader_skip T) (by decide) (ok_Reader_expect T) (by decide) (ok_Reader_peek T) (by decide) (ok_read_worded T) (by decide) (ok_read_labelled T) (by decide) (ok_Reader_finish T) (by decide) cdv A0 outer s H E hr) ?_
  rintro ds M Q E ⟨l, rfl, hl, k1, k2⟩
  show w_read_line A _ _ _ _ _ _ _ _ _ [some (.str l), none, none, none] M
  unfold w_read_line
  (repeat (first | walk_at "q" | simp only [QL.D.ob.injEq, exists_and_left, exists_eq_left', MO.ins.injEq, Option.some.injEq, true_and, and_true, onL_same, upm_same, upm_upm]))
  refine ⟨l, rfl, hl, fun ts ht a ha => ?_, fun hn => ⟨M, Sub.refl _, k2 (.inl hn)⟩⟩
  obtain ⟨tk, rfl, tok, tl⟩ := lex_toks hl ht
  (repeat (first | walk_at "q" | simp only [QL.D.ob.injEq, exists_and_left, exists_eq_left', MO.ins.injEq, Option.some.injEq, true_and, and_true, onL_same, upm_same, upm_upm]))
  intro r hr
  have na : a ≠ r := mne upm_same hr
  refine ⟨r, a, tk, rfl, upm_same, ?_⟩
  rw [rdM_upm]
  have R : Rdr A r a tk tk (rdM A r a tk tk (upm M a (.lst (tk.map Tk.D)))) := ⟨upm_same, (upm_ne na).trans upm_same, List.suffix_refl _, tok, by omega⟩
  have s0 : ∀ o, QL.Sub M (upm (upm M a (.lst (tk.map Tk.D))) r o) := fun o b u z => (upm_ne (mne z (upm_none hr).1)).trans ((upm_ne (mne z ha)).trans z)
  have sub : ∀ o M', Ext r (upm (upm M a (.lst (tk.map Tk.D))) r o) M' → QL.Sub M M' := fun o M' h b u z => h b u (mne z (upm_none hr).1) (s0 _ b u z)
  have bad : lineP tk = none → ∀ (δ : QL.Env) o M', Ext r (upm (upm M a (.lst (tk.map Tk.D))) r o) M' → endX E ⟨A.c_BadLine, []⟩ δ M' := fun h δ o M' hM => ⟨M, sub _ M' hM, k2 (.inr ⟨tk, ht, h⟩)⟩
  (repeat (first | walk_at "q" | simp only [QL.D.ob.injEq, exists_and_left, exists_eq_left', MO.ins.injEq, Option.some.injEq, true_and, and_true, onL_same, upm_same, upm_upm, R.i, rdF_m3]))
  refine skip_ok (.y 125) rfl R (fun h => ?_) (fun h => ?_)
  · have R2 := R.to2 (us := tk.tail) (List.tail_suffix tk)
    (repeat (first | walk_at "q" | simp only [QL.D.ob.injEq, exists_and_left, exists_eq_left', MO.ins.injEq, Option.some.injEq, true_and, and_true, onL_same, upm_same, upm_upm, R2.i, rdF_m3]))
    refine skip_ok (.w (tx "else")) rfl R2 (fun h2 => ?_) (fun h2 => ?_)
    · have R3 := R2.to2 (us := tk.tail.tail) ((List.tail_suffix _).trans (List.tail_suffix tk))
      have n1 : lineP tk = endP ((expP (.y 123) tk.tail.tail).map fun r => (.els, r)) := by unfold lineP; rw [if_pos h, if_pos h2]
      (repeat (first | walk_at "q" | simp only [QL.D.ob.injEq, exists_and_left, exists_eq_left', MO.ins.injEq, Option.some.injEq, true_and, and_true, onL_same, upm_same, upm_upm, R3.i, rdF_m4]))
      refine exp_ok (.y 123) rfl R3 (fun r4 h4 => ?_) (fun hn => bad (by rw [n1, hn]; rfl) _ _)
      have R4 := R3.to2 (us := r4) (R3.suf (expP_suf h4))
      have n2 : lineP tk = if r4 = [] then some .els else none := by rw [n1, h4]; rfl
      (repeat (first | walk_at "q" | simp only [QL.D.ob.injEq, exists_and_left, exists_eq_left', MO.ins.injEq, Option.some.injEq, true_and, and_true, onL_same, upm_same, upm_upm, R4.i, rdF_m6]))
      refine ⟨r, a, tk, r4, rfl, R4, fun e => ?_, fun e => bad (by rw [n2, if_neg e]) _ _ _ (Ext.refl _ _)⟩
      (repeat (first | walk_at "q" | simp only [QL.D.ob.injEq, exists_and_left, exists_eq_left', MO.ins.injEq, Option.some.injEq, true_and, and_true, onL_same, upm_same, upm_upm]))
      exact ⟨M, s0 _, k1 .els ⟨tk, ht, by rw [n2, if_pos e]⟩⟩
    · have n2 : lineP tk = if tk.tail = [] then some .cls else none := by unfold lineP; rw [if_pos h, if_neg h2]; rfl
      (repeat (first | walk_at "q" | simp only [QL.D.ob.injEq, exists_and_left, exists_eq_left', MO.ins.injEq, Option.some.injEq, true_and, and_true, onL_same, upm_same, upm_upm, R2.i, rdF_m6]))
      refine ⟨r, a, tk, tk.tail, rfl, R2, fun e => ?_, fun e => bad (by rw [n2, if_neg e]) _ _ _ (Ext.refl _ _)⟩
      (repeat (first | walk_at "q" | simp only [QL.D.ob.injEq, exists_and_left, exists_eq_left', MO.ins.injEq, Option.some.injEq, true_and, and_true, onL_same, upm_same, upm_upm]))
      exact ⟨M, s0 _, k1 .cls ⟨tk, ht, by rw [n2, if_pos e]⟩⟩
  · have n0 : lineP tk = if isWd tk = true then endP (wordP tk) else endP (labdP tk) := by unfold lineP; rw [if_neg h]
    (repeat (first | walk_at "q" | simp only [QL.D.ob.injEq, exists_and_left, exists_eq_left', MO.ins.injEq, Option.some.injEq, true_and, and_true, onL_same, upm_same, upm_upm, R.i, rdF_m1]))
    refine ⟨r, a, tk, tk, rfl, R, ?_⟩
    (repeat (first | walk_at "q" | simp only [QL.D.ob.injEq, exists_and_left, exists_eq_left', MO.ins.injEq, Option.some.injEq, true_and, and_true, onL_same, upm_same, upm_upm]))
    intro p hp
    have p1 := upm_none hp
    have p2 := upm_none p1.1
    obtain ⟨M1, hM1⟩ : ∃ M1, M1 = rdM A r a tk tk (upm M a (.lst (tk.map Tk.D))) := ⟨_, rfl⟩
    refine lc_list (fun i M' => M' = upm (rdM A r a tk tk (upm M a (.lst (tk.map Tk.D)))) p (.lst ((WDS.take i).map fun v => (Tk.w v).D))) rfl (fun _ _ _ _ => trivial) (fun i d M' hd h => ?_) (fun M' h => ?_)
    · subst h
      obtain ⟨v, hv, rfl⟩ : ∃ v, WDS[i]? = some v ∧ d = .str v := by
        have hd : (WDS.map QL.D.str)[i]? = some d := hd
        rw [List.getElem?_map] at hd
        cases ev : WDS[i]? with
        | none => rw [ev] at hd; cases hd
        | some v => rw [ev] at hd; cases hd; exact ⟨v, rfl, rfl⟩
      have hi : i < WDS.length := (List.getElem?_eq_some_iff.mp hv).1
      have h5 : WDS.length = 5 := rfl
      (repeat (first | walk_at "q" | simp only [QL.D.ob.injEq, exists_and_left, exists_eq_left', MO.ins.injEq, Option.some.injEq, true_and, and_true, onL_same, upm_same, upm_upm]))
      refine ⟨by rw [List.length_map, List.length_take, sizeLine_eq]; omega, ?_⟩
      rw [take_at hv, List.map_append]
      rfl
    · subst h
      have R5 : Rdr A r a tk tk (upm (rdM A r a tk tk (upm M a (.lst (tk.map Tk.D)))) p (.lst (WDS.map fun v => (Tk.w v).D))) := ⟨(upm_ne p1.2.symm).trans R.i, (upm_ne p2.2.symm).trans R.l, R.s, R.ok, R.n⟩
      have sub2 : ∀ M', Ext r (upm (rdM A r a tk tk (upm M a (.lst (tk.map Tk.D)))) p (.lst (WDS.map fun v => (Tk.w v).D))) M' → QL.Sub M M' := fun M' h b u z => h b u (mne z (upm_none hr).1) ((upm_ne (mne z p2.1)).trans (s0 _ b u z))
      have X2 : ∀ {Ma : Mp} o, Ext r Ma (upm Ma r o) := fun o => (Ext.refl r _).at
      have bad2 : lineP tk = none → ∀ (δ : QL.Env) M', Ext r (upm (rdM A r a tk tk (upm M a (.lst (tk.map Tk.D)))) p (.lst (WDS.map fun v => (Tk.w v).D))) M' → endX E ⟨A.c_BadLine, []⟩ δ M' := fun h δ M' hM => ⟨M, sub2 M' hM, k2 (.inr ⟨tk, ht, h⟩)⟩
      show onL (upm (rdM A r a tk tk (upm M a (.lst (tk.map Tk.D)))) p (.lst (WDS.map fun v => (Tk.w v).D))) p _
      rw [onL_same, any_wd]
      refine ⟨okN_hd tk, rfl, ite2 (fun hw => ?_) (fun hw => ?_)⟩
      · rw [if_pos hw] at n0
        obtain ⟨v, ts, rfl, hv⟩ : ∃ v ts, tk = .w v :: ts ∧ v ∈ WDS := by
          cases tk with
          | nil => cases hw
          | cons t ts => cases t with
            | w v => exact ⟨v, ts, rfl, by simpa [isWd] using hw⟩
            | n _ => cases hw
            | y _ => cases hw
        refine ⟨r, a, _, ts, v, rfl, hv, R5, fun k rest hk hs => ?_, fun hn => bad2 (by rw [n0, hn]; rfl) _⟩
        have R6 := R5.to (us := rest) hs
        have n1 : lineP (.w v :: ts) = if rest = [] then some k else none := by rw [n0, hk]; rfl
        refine ⟨_, R6.i, rdF_m6, r, a, _, rest, rfl, R6, fun e => ⟨M, sub2 _ (X2 _), k1 k ⟨_, ht, by rw [n1, if_pos e]⟩⟩, fun e => bad2 (by rw [n1, if_neg e]) _ _ (X2 _)⟩
      · rw [if_neg hw] at n0
        refine ⟨r, a, tk, tk, rfl, R5, fun k rest hk hs => ?_, fun hn => bad2 (by rw [n0, hn]; rfl) _⟩
        have R6 := R5.to (us := rest) hs
        have n1 : lineP tk = if rest = [] then some k else none := by rw [n0, hk]; rfl
        refine ⟨_, R6.i, rdF_m6, r, a, _, rest, rfl, R6, fun e => ⟨M, sub2 _ (X2 _), k1 k ⟨_, ht, by rw [n1, if_pos e]⟩⟩, fun e => bad2 (by rw [n1, if_neg e]) _ _ (X2 _)⟩
end
section
variable {P : Program} {w : World} {K : PySem.W.Frag} {mg : Str → Option Value} {base : Heap} {A : Ads}
/-! ### what stands open -/
def opF (h t : QL.D) (p : Addr) : List (Str × QL.D) := [("head", h), ("then_body", t), ("body", .ob p)]
theorem opF_h {h t : QL.D} {p : Addr} : (opF h t p).lookup ("head" : Str) = some h := rfl
theorem opF_t {h t : QL.D} {p : Addr} : (opF h t p).lookup ("then_body" : Str) = some t := rfl
theorem opF_b {h t : QL.D} {p : Addr} : (opF h t p).lookup ("body" : Str) = some (.ob p) := rfl
theorem opF_c {h t : QL.D} {p : Addr} : (opF h t p).lookup ("closed" : Str) = none := rfl
theorem opF_pt {h t x : QL.D} {p : Addr} : putD ("then_body" : Str) x (opF h t p) = opF h x p := rfl
theorem opF_pb {h t : QL.D} {p q : Addr} : putD ("body" : Str) (.ob q) (opF h t p) = opF h t q := rfl
theorem opF_len {h t : QL.D} {p : Addr} : (opF h t p).length < 1000 := (show 3 < 1000 by decide)
def opnD : Option Hd → QL.D
  | none => .tup [.str (tx "program")]
  | some h => .tup h.D
def thnD : Option (List Sm) → QL.D
  | none => .non
  | some a => .tup (smD a)
def sp_Open__init (A : Ads) : SpD := fun ds M Q _ => ∃ (r : Addr) (h : QL.D), ds = [.ob r, h] ∧ M r = some (.ins A.c_Open []) ∧ ∀ p M', M p = none → M' r = some (.ins A.c_Open (opF h .non p)) → M' p = some (.lst []) → (∀ b, b ≠ r → b ≠ p → M' b = M b) → Q .non M'
theorem ok_Open__init (T : Txt w K mg A) : FnD P w K mg base 1 A.a_Open__init A.d_Open__init ["self", "head"] (sp_Open__init A) := by
  refine fnD_of T.f_Open__init sc_Open__init (fun ds M Q E ⟨_, _, h, _⟩ => by rw [h]; rfl) (fun cdv A0 outer s H E hr => der_Open__init T cdv A0 outer s H E hr) ?_
  rintro ds M Q E ⟨r, h, rfl, hr, k⟩
  show w_Open__init A _ [some (.ob r), some h] M
  unfold w_Open__init
  (repeat (first | walk_at "q" | simp only [QL.D.ob.injEq, exists_and_left, exists_eq_left', MO.ins.injEq, Option.some.injEq, true_and, and_true, onL_same, upm_same, upm_upm, hr]))
  refine ⟨by decide, (show 1 < 1000 by decide), fun p hp => ?_⟩
  have p1 := upm_none hp
  (repeat (first | walk_at "q" | simp only [QL.D.ob.injEq, exists_and_left, exists_eq_left', MO.ins.injEq, Option.some.injEq, true_and, and_true, onL_same, upm_same, upm_upm, upm_ne p1.2.symm]))
  refine ⟨(show 2 < 1000 by decide), _, Sub.refl _, k p _ p1.1 upm_same ?_ (fun b h1 h2 => ?_)⟩
  · rw [upm_ne p1.2, upm_same]
  · rw [upm_ne h1, upm_ne h2, upm_ne h1]
def sp_Open_closed (A : Ads) : SpD := fun ds M Q _ => ∃ (r p : Addr) (h : Hd) (t : Option (List Sm)) (b : List Sm), ds = [.ob r] ∧ M r = some (.ins A.c_Open (opF (opnD (some h)) (thnD t) p)) ∧ M p = some (.lst (smD b)) ∧ (∀ lp n, h = .scope lp n → t = none) ∧ Q ((closeS h t b).D) M
theorem ok_Open_closed (T : Txt w K mg A) : FnD P w K mg base 1 A.a_Open_closed A.d_Open_closed ["self"] (sp_Open_closed A) := by
  refine fnD_of T.f_Open_closed sc_Open_closed (fun ds M Q E ⟨_, _, _, _, _, h, _⟩ => by rw [h]; rfl) (fun cdv A0 outer s H E hr => der_Open_closed T cdv A0 outer s H E hr) ?_
  rintro ds M Q E ⟨r, p, h, t, b, rfl, hr, hp, hs, k⟩
  show w_Open_closed A _ [some (.ob r)] M
  unfold w_Open_closed
  have c1 : ¬ tx "block" = tx "if" := by decide
  have c2 : ¬ tx "loop" = tx "if" := by decide
  have len1 : ∀ (x y : QL.D), ([x, y] : List QL.D).length ≤ 2 := fun _ _ => Nat.le_refl _
  cases h with
  | cond l e =>
    cases t with
    | none =>
      simp only [opnD, thnD, Hd.D] at hr
      (repeat (first | walk_at "q" | simp only [QL.D.ob.injEq, exists_and_left, exists_eq_left', MO.ins.injEq, Option.some.injEq, true_and, and_true, onL_same, upm_same, upm_upm, hr, opF_h, opF_t, opF_b, onL_of hp, isNone]))
      exact ⟨rfl, rfl, by rw [sizeLine_eq]; decide, _, Sub.refl _, k⟩
    | some a =>
      simp only [opnD, thnD, Hd.D] at hr
      (repeat (first | walk_at "q" | simp only [QL.D.ob.injEq, exists_and_left, exists_eq_left', MO.ins.injEq, Option.some.injEq, true_and, and_true, onL_same, upm_same, upm_upm, hr, opF_h, opF_t, opF_b, onL_of hp, isNone]))
      exact ⟨rfl, rfl, by rw [sizeLine_eq]; decide, _, Sub.refl _, k⟩
  | scope lp n =>
    have e := hs lp n rfl
    subst e
    cases lp with
    | true =>
      simp only [opnD, thnD, Hd.D, scW, if_true] at hr
      (repeat (first | walk_at "q" | simp only [QL.D.ob.injEq, exists_and_left, exists_eq_left', MO.ins.injEq, Option.some.injEq, true_and, and_true, onL_same, upm_same, upm_upm, hr, opF_h, opF_t, opF_b, onL_of hp, c2]))
      exact ⟨rfl, rfl, by rw [sizeLine_eq]; decide, _, Sub.refl _, k⟩
    | false =>
      simp only [opnD, thnD, Hd.D, scW, Bool.false_eq_true, if_false] at hr
      (repeat (first | walk_at "q" | simp only [QL.D.ob.injEq, exists_and_left, exists_eq_left', MO.ins.injEq, Option.some.injEq, true_and, and_true, onL_same, upm_same, upm_upm, hr, opF_h, opF_t, opF_b, onL_of hp, c1]))
      exact ⟨rfl, rfl, by rw [sizeLine_eq]; decide, _, Sub.refl _, k⟩
def sp_begin_else (A : Ads) : SpD := fun ds M Q _ => ∃ (r p : Addr) (l : Tx) (e : Ex) (b : List Sm), ds = [.ob r] ∧ M r = some (.ins A.c_Open (opF (opnD (some (.cond l e))) .non p)) ∧ M p = some (.lst (smD b)) ∧
  ∀ q M', M q = none → M' r = some (.ins A.c_Open (opF (opnD (some (.cond l e))) (thnD (some b)) q)) → M' q = some (.lst []) → (∀ c, c ≠ r → c ≠ q → M' c = M c) → Q .non M'
theorem ok_begin_else (T : Txt w K mg A) : FnD P w K mg base 1 A.a_begin_else A.d_begin_else ["top"] (sp_begin_else A) := by
  refine fnD_of T.f_begin_else sc_begin_else (fun ds M Q E ⟨_, _, _, _, _, h, _⟩ => by rw [h]; rfl) (fun cdv A0 outer s H E hr => der_begin_else T cdv A0 outer s H E hr) ?_
  rintro ds M Q E ⟨r, p, l, e, b, rfl, hr, hp, k⟩
  show w_begin_else A _ [some (.ob r)] M
  unfold w_begin_else
  simp only [opnD, thnD, Hd.D] at hr
  (repeat (first | walk_at "q" | simp only [QL.D.ob.injEq, exists_and_left, exists_eq_left', MO.ins.injEq, Option.some.injEq, true_and, and_true, onL_same, upm_same, upm_upm, hr, opF_h, opF_t, opF_b, onL_of hp, isNone]))
  refine ⟨rfl, rfl, ite2 (fun z => by simp at z) (fun _ => ⟨opF_len, fun q hq => ?_⟩)⟩
  rw [opF_pt] at hq ⊢
  have q1 := upm_none hq
  rw [upm_ne q1.2.symm]
  (repeat (first | walk_at "q" | simp only [QL.D.ob.injEq, exists_and_left, exists_eq_left', MO.ins.injEq, Option.some.injEq, true_and, and_true, onL_same, upm_same, upm_upm]))
  refine ⟨opF_len, _, Sub.refl _, ?_⟩
  rw [opF_pb]
  refine k q _ q1.1 upm_same ?_ (fun c h1 h2 => ?_)
  · rw [upm_ne q1.2, upm_same]
  · rw [upm_ne h1, upm_ne h2, upm_ne h1]
abbrev Cl := Addr × Addr × Fr
structure SK (A : Ads) (M0 M : Mp) (sa : Addr) (cs : List Cl) : Prop where
  sub : QL.Sub M0 M
  s0 : M0 sa = none
  st : M sa = some (.lst (cs.reverse.map fun c => QL.D.ob c.1))
  ob : ∀ c ∈ cs, M c.1 = some (.ins A.c_Open (opF (opnD c.2.2.h) (thnD c.2.2.t) c.2.1))
  bd : ∀ c ∈ cs, M c.2.1 = some (.lst (smD c.2.2.b))
  f1 : ∀ c ∈ cs, M0 c.1 = none
  f2 : ∀ c ∈ cs, M0 c.2.1 = none
  ps : ∀ c ∈ cs, c.2.1 ≠ sa
  n1 : (cs.map (·.1)).Nodup
  n2 : (cs.map (·.2.1)).Nodup
  sc : ∀ c ∈ cs, ∀ lp n, c.2.2.h = some (.scope lp n) → c.2.2.t = none
theorem SK.ne12 {M0 M : Mp} {sa : Addr} {cs : List Cl} (h : SK A M0 M sa cs) {c d : Cl} (hc : c ∈ cs) (hd : d ∈ cs) : c.1 ≠ d.2.1 := fun e => by
  have := h.ob c hc
  rw [e, h.bd d hd] at this; cases this
theorem SK.ne1s {M0 M : Mp} {sa : Addr} {cs : List Cl} (h : SK A M0 M sa cs) {c : Cl} (hc : c ∈ cs) : c.1 ≠ sa := fun e => by
  have := h.ob c hc
  rw [e, h.st] at this; cases this
theorem nodup_ne {α β : Type} {f : α → β} {c d : α} {cs : List α} (h : ((c :: cs).map f).Nodup) (hd : d ∈ cs) : f d ≠ f c := fun e => (List.nodup_cons.mp h).1 (List.mem_map.mpr ⟨d, hd, e⟩)
/-- one more statement in the innermost body -/
theorem SK.app {M0 M : Mp} {sa r p : Addr} {h : Option Hd} {t : Option (List Sm)} {b : List Sm} {cs : List Cl} (S : SK A M0 M sa ((r, p, ⟨h, t, b⟩) :: cs)) (b' : List Sm) : SK A M0 (upm M p (.lst (smD b'))) sa ((r, p, ⟨h, t, b'⟩) :: cs) := by
  have m0 : ((r, p, ⟨h, t, b⟩) : Cl) ∈ ((r, p, ⟨h, t, b⟩) : Cl) :: cs := by simp
  refine ⟨fun a o e => ?_, S.s0, ?_, fun c hc => ?_, fun c hc => ?_, fun c hc => ?_, fun c hc => ?_, fun c hc => ?_, S.n1, S.n2, fun c hc => ?_⟩
  · rw [upm_ne (mne e (S.f2 _ m0))]; exact S.sub a o e
  · rw [upm_ne (S.ps _ m0).symm]; simpa using S.st
  · rcases List.mem_cons.mp hc with rfl | hc
    · rw [upm_ne (S.ne12 m0 m0)]; exact S.ob (r, p, ⟨h, t, b⟩) m0
    · rw [upm_ne (S.ne12 (List.mem_cons_of_mem _ hc) m0)]; exact S.ob c (List.mem_cons_of_mem _ hc)
  · rcases List.mem_cons.mp hc with rfl | hc
    · exact upm_same
    · rw [upm_ne (nodup_ne (f := fun c : Cl => c.2.1) S.n2 hc)]; exact S.bd c (List.mem_cons_of_mem _ hc)
  · rcases List.mem_cons.mp hc with rfl | hc
    · exact S.f1 (r, p, ⟨h, t, b⟩) m0
    · exact S.f1 c (List.mem_cons_of_mem _ hc)
  · rcases List.mem_cons.mp hc with rfl | hc
    · exact S.f2 (r, p, ⟨h, t, b⟩) m0
    · exact S.f2 c (List.mem_cons_of_mem _ hc)
  · rcases List.mem_cons.mp hc with rfl | hc
    · exact S.ps (r, p, ⟨h, t, b⟩) m0
    · exact S.ps c (List.mem_cons_of_mem _ hc)
  · rcases List.mem_cons.mp hc with rfl | hc
    · exact S.sc (r, p, ⟨h, t, b⟩) m0
    · exact S.sc c (List.mem_cons_of_mem _ hc)
/-- a new one is opened -/
theorem SK.push {M0 M M1 : Mp} {sa r p : Addr} {h : Hd} {cs : List Cl} (S : SK A M0 M sa cs) (hr : M r = none) (hp : M p = none) (npr : p ≠ r) (e1 : M1 r = some (.ins A.c_Open (opF (opnD (some h)) .non p))) (e2 : M1 p = some (.lst [])) (e3 : ∀ b, b ≠ r → b ≠ p → M1 b = M b) :
    M1 sa = some (.lst (cs.reverse.map fun c => QL.D.ob c.1)) ∧ SK A M0 (upm M1 sa (.lst ((cs.reverse.map fun c => QL.D.ob c.1) ++ [.ob r]))) sa ((r, p, ⟨some h, none, []⟩) :: cs) := by
  have rs : sa ≠ r := mne S.st hr
  have pS : sa ≠ p := mne S.st hp
  have M0n : ∀ a, M a = none → M0 a = none := fun a e => by
    cases q : M0 a with
    | none => rfl
    | some o => have := S.sub a o q; rw [e] at this; cases this
  have es : M1 sa = some (.lst (cs.reverse.map fun c => QL.D.ob c.1)) := (e3 sa rs pS).trans S.st
  refine ⟨es, fun a o e => ?_, S.s0, ?_, fun c hc => ?_, fun c hc => ?_, fun c hc => ?_, fun c hc => ?_, fun c hc => ?_, ?_, ?_, fun c hc => ?_⟩
  · rw [upm_ne (mne e S.s0), e3 a (mne e (M0n r hr)) (mne e (M0n p hp))]; exact S.sub a o e
  · rw [upm_same]; simp
  · rcases List.mem_cons.mp hc with rfl | hc
    · rw [upm_ne rs.symm]; exact e1
    · rw [upm_ne (S.ne1s hc), e3 c.1 (mne (S.ob c hc) hr) (mne (S.ob c hc) hp)]; exact S.ob c hc
  · rcases List.mem_cons.mp hc with rfl | hc
    · rw [upm_ne pS.symm]; exact e2
    · rw [upm_ne (S.ps c hc), e3 c.2.1 (mne (S.bd c hc) hr) (mne (S.bd c hc) hp)]; exact S.bd c hc
  · rcases List.mem_cons.mp hc with rfl | hc
    · exact M0n r hr
    · exact S.f1 c hc
  · rcases List.mem_cons.mp hc with rfl | hc
    · exact M0n p hp
    · exact S.f2 c hc
  · rcases List.mem_cons.mp hc with rfl | hc
    · exact pS.symm
    · exact S.ps c hc
  · rw [List.map_cons]
    refine List.nodup_cons.mpr ⟨fun m => ?_, S.n1⟩
    obtain ⟨c, hc, e⟩ := List.mem_map.mp m
    exact mne (S.ob c hc) hr e
  · rw [List.map_cons]
    refine List.nodup_cons.mpr ⟨fun m => ?_, S.n2⟩
    obtain ⟨c, hc, e⟩ := List.mem_map.mp m
    exact mne (S.bd c hc) hp e
  · rcases List.mem_cons.mp hc with rfl | hc
    · exact fun _ _ _ => rfl
    · exact S.sc c hc
/-- the else of the innermost one -/
theorem SK.else {M0 M M1 : Mp} {sa r p q : Addr} {l : Tx} {e : Ex} {b : List Sm} {cs : List Cl} (S : SK A M0 M sa ((r, p, ⟨some (.cond l e), none, b⟩) :: cs)) (hq : M q = none) (e1 : M1 r = some (.ins A.c_Open (opF (opnD (some (.cond l e))) (thnD (some b)) q))) (e2 : M1 q = some (.lst [])) (e3 : ∀ c, c ≠ r → c ≠ q → M1 c = M c) :
    SK A M0 M1 sa ((r, q, ⟨some (.cond l e), some b, []⟩) :: cs) := by
  have m0 : ((r, p, ⟨some (.cond l e), none, b⟩) : Cl) ∈ ((r, p, ⟨some (.cond l e), none, b⟩) : Cl) :: cs := by simp
  have M0q : M0 q = none := by
    cases z : M0 q with
    | none => rfl
    | some o => have := S.sub q o z; rw [hq] at this; cases this
  have mm : ∀ c ∈ cs, c ∈ ((r, p, ⟨some (.cond l e), none, b⟩) : Cl) :: cs := fun c hc => List.mem_cons_of_mem _ hc
  refine ⟨fun a o z => ?_, S.s0, ?_, fun c hc => ?_, fun c hc => ?_, fun c hc => ?_, fun c hc => ?_, fun c hc => ?_, S.n1, ?_, fun c hc => ?_⟩
  · rw [e3 a (mne z (S.f1 _ m0)) (mne z M0q)]; exact S.sub a o z
  · rw [e3 sa (S.ne1s m0).symm (mne S.st hq)]; simpa using S.st
  · rcases List.mem_cons.mp hc with rfl | hc
    · exact e1
    · rw [e3 c.1 (nodup_ne (f := fun c : Cl => c.1) S.n1 hc) (mne (S.ob c (mm c hc)) hq)]; exact S.ob c (mm c hc)
  · rcases List.mem_cons.mp hc with rfl | hc
    · exact e2
    · rw [e3 c.2.1 (S.ne12 m0 (mm c hc)).symm (mne (S.bd c (mm c hc)) hq)]; exact S.bd c (mm c hc)
  · rcases List.mem_cons.mp hc with rfl | hc
    · exact S.f1 (r, p, ⟨some (.cond l e), none, b⟩) m0
    · exact S.f1 c (mm c hc)
  · rcases List.mem_cons.mp hc with rfl | hc
    · exact M0q
    · exact S.f2 c (mm c hc)
  · rcases List.mem_cons.mp hc with rfl | hc
    · exact (mne S.st hq).symm
    · exact S.ps c (mm c hc)
  · rw [List.map_cons]
    refine List.nodup_cons.mpr ⟨fun m => ?_, (List.nodup_cons.mp S.n2).2⟩
    obtain ⟨c, hc, z⟩ := List.mem_map.mp m
    exact mne (S.bd c (mm c hc)) hq z
  · rcases List.mem_cons.mp hc with rfl | hc
    · intro lp n z; cases z
    · exact S.sc c (mm c hc)
/-- the innermost one is closed -/
theorem SK.pop {M0 M : Mp} {sa r p r2 p2 : Addr} {f f2 : Fr} {cs : List Cl} (S : SK A M0 M sa ((r, p, f) :: (r2, p2, f2) :: cs)) (b' : List Sm) :
    SK A M0 (upm (upm M sa (.lst (((r2, p2, f2) :: cs).reverse.map fun c => QL.D.ob c.1))) p2 (.lst (smD b'))) sa ((r2, p2, ⟨f2.h, f2.t, b'⟩) :: cs) := by
  have mm : ∀ c ∈ (r2, p2, f2) :: cs, c ∈ (r, p, f) :: (r2, p2, f2) :: cs := fun c hc => List.mem_cons_of_mem _ hc
  have S2 : SK A M0 (upm M sa (.lst (((r2, p2, f2) :: cs).reverse.map fun c => QL.D.ob c.1))) sa ((r2, p2, f2) :: cs) := by
    refine ⟨fun a o z => ?_, S.s0, upm_same, fun c hc => ?_, fun c hc => ?_, fun c hc => S.f1 c (mm c hc), fun c hc => S.f2 c (mm c hc), fun c hc => S.ps c (mm c hc), (List.nodup_cons.mp S.n1).2, (List.nodup_cons.mp S.n2).2, fun c hc => S.sc c (mm c hc)⟩
    · rw [upm_ne (mne z S.s0)]; exact S.sub a o z
    · rw [upm_ne (S.ne1s (mm c hc))]; exact S.ob c (mm c hc)
    · rw [upm_ne (S.ps c (mm c hc))]; exact S.bd c (mm c hc)
  exact SK.app (h := f2.h) (t := f2.t) (b := f2.b) S2 b'
abbrev frs (cs : List Cl) : List Fr := cs.map fun c => c.2.2
def sp_take_line (A : Ads) : SpD := fun ds M Q _ => ∃ (M0 : Mp) (sa : Addr) (cs : List Cl) (k : Lk) (gs : List Fr), ds = [.ob sa, k.D] ∧ SK A M0 M sa cs ∧ step (frs cs) k = some gs ∧ cs.length ≤ 10000001 ∧ (∀ c ∈ cs, c.2.2.b.length ≤ 10000000) ∧ ∀ ds' M', SK A M0 M' sa ds' → frs ds' = gs → Q .non M'
theorem ok_take_line (T : Txt w K mg A) : FnD P w K mg base 3 A.a_take_line A.d_take_line ["stack", "found"] (sp_take_line A) := by
  refine fnD_of T.f_take_line sc_take_line (fun ds M Q E ⟨_, _, _, _, _, h, _⟩ => by rw [h]; rfl) (fun cdv A0 outer s H E hr => der_take_line T (ok_Open__init T) (by decide) (ok_begin_else T) (by decide) (ok_Open_closed T) (by decide) cdv A0 outer s H E hr) ?_
  rintro ds M Q E ⟨M0, sa, cs, k, gs, rfl, S, hst, hl, hb, q⟩
  show w_take_line A _ _ _ _ [some (.ob sa), some k.D, none] M
  unfold w_take_line
  have c1 : ¬ tx "open" = tx "statement" := by decide
  have c2 : ¬ tx "else" = tx "statement" := by decide
  have c3 : ¬ tx "close" = tx "statement" := by decide
  have c4 : ¬ tx "else" = tx "open" := by decide
  have c5 : ¬ tx "close" = tx "open" := by decide
  have c6 : ¬ tx "close" = tx "else" := by decide
  have h60 : (60 : Int) = ((60 : Nat) : Int) := rfl
  cases k with
  | stm s =>
    simp only [Lk.D]
    (repeat (first | walk_at "q" | simp only [QL.D.ob.injEq, exists_and_left, exists_eq_left', MO.ins.injEq, Option.some.injEq, true_and, and_true, onL_same, upm_same, upm_upm]))
    cases cs with
    | nil => cases hst
    | cons c cs =>
      obtain ⟨r, p, ⟨h, t, b⟩⟩ := c
      have hst : some (⟨h, t, b ++ [s]⟩ :: frs cs) = some gs := hst
      cases hst
      have e0 : M sa = some (.lst ((cs.reverse.map fun c => QL.D.ob c.1) ++ [.ob r])) := by rw [S.st]; simp
      have hp := S.bd (r, p, ⟨h, t, b⟩) (by simp)
      have hp : M p = some (.lst (smD b)) := hp
      have hr : M r = some (.ins A.c_Open (opF (opnD h) (thnD t) p)) := S.ob (r, p, ⟨h, t, b⟩) (by simp)
      have hbl : b.length ≤ 10000000 := hb (r, p, ⟨h, t, b⟩) (by simp)
      (repeat (first | walk_at "q" | simp only [QL.D.ob.injEq, exists_and_left, exists_eq_left', MO.ins.injEq, Option.some.injEq, true_and, and_true, onL_same, upm_same, upm_upm, onL_of e0, atI_l, hr, opF_b, isTy_list, onL_of hp]))
      refine ⟨rfl, rfl, ⟨_, hp⟩, by rw [smD_len, sizeLine_eq]; omega, _, Sub.refl _, ?_⟩
      have := S.app (b ++ [s])
      rw [smD_app] at this
      exact q _ _ this rfl
  | opn h =>
    simp only [Lk.D]
    (repeat (first | walk_at "q" | simp only [QL.D.ob.injEq, exists_and_left, exists_eq_left', MO.ins.injEq, Option.some.injEq, true_and, and_true, onL_same, upm_same, upm_upm, c1, onL_of S.st]))
    cases cs with
    | nil => cases hst
    | cons c cs =>
      have hst : (if (frs (c :: cs)).length ≤ 60 then some (⟨some h, none, []⟩ :: frs (c :: cs)) else none) = some gs := hst
      by_cases h6 : (frs (c :: cs)).length ≤ 60
      · rw [if_pos h6] at hst
        cases hst
        rw [List.length_map] at h6
        refine ⟨rfl, rfl, rfl, rfl, ?_⟩
        rw [if_neg (by simp only [List.length_map, List.length_reverse]; omega)]
        refine ⟨⟨_, S.st⟩, fun r hr => ⟨r, _, rfl, upm_same, fun p M' hp e1 e2 e3 => ⟨rfl, ?_⟩⟩⟩
        have p1 := upm_none hp
        have E3 : ∀ b, b ≠ r → b ≠ p → M' b = M b := fun b x y => (e3 b x y).trans (upm_ne x)
        obtain ⟨es, S2⟩ := S.push (h := h) hr p1.1 p1.2 e1 e2 E3
        rw [onL_of es]
        exact ⟨by simp only [List.length_map, List.length_reverse]; rw [sizeLine_eq]; omega, _, Sub.refl _, q _ _ S2 rfl⟩
      · rw [if_neg h6] at hst; cases hst
  | els =>
    simp only [Lk.D]
    cases cs with
    | nil => cases hst
    | cons c cs =>
      obtain ⟨r, p, ⟨h, t, b⟩⟩ := c
      cases h with
      | none => cases hst
      | some h => cases h with
        | scope lp n => cases hst
        | cond l e => cases t with
          | some a => cases hst
          | none => cases cs with
            | nil => cases hst
            | cons cc cs =>
              have hst : some (⟨some (.cond l e), some b, []⟩ :: frs (cc :: cs)) = some gs := hst
              cases hst
              have e0 : M sa = some (.lst (((cc :: cs).reverse.map fun c => QL.D.ob c.1) ++ [.ob r])) := by rw [S.st]; simp
              have hp : M p = some (.lst (smD b)) := S.bd (r, p, ⟨some (.cond l e), none, b⟩) (by simp)
              have hr : M r = some (.ins A.c_Open (opF (opnD (some (.cond l e))) .non p)) := S.ob (r, p, ⟨some (.cond l e), none, b⟩) (by simp)
              (repeat (first | walk_at "q" | simp only [QL.D.ob.injEq, exists_and_left, exists_eq_left', MO.ins.injEq, Option.some.injEq, true_and, and_true, onL_same, upm_same, upm_upm, c2, c4, onL_of e0, atI_l]))
              refine ⟨rfl, rfl, rfl, rfl, rfl, rfl, ?_⟩
              rw [if_neg (by simp only [List.length_append, List.length_map, List.length_reverse, List.length_cons, List.length_nil]; omega)]
              exact ⟨rfl, rfl, r, p, l, e, b, rfl, hr, hp, fun q1 M' hq e1 e2 e3 => ⟨_, Sub.refl _, q _ _ (S.else hq e1 e2 e3) rfl⟩⟩
  | cls =>
    simp only [Lk.D]
    cases cs with
    | nil => cases hst
    | cons c cs =>
      obtain ⟨r, p, ⟨h, t, b⟩⟩ := c
      cases h with
      | none => cases hst
      | some h => cases cs with
        | nil => cases hst
        | cons cc cs =>
          obtain ⟨r2, p2, ⟨h2, t2, b2⟩⟩ := cc
          have hst : some (⟨h2, t2, b2 ++ [closeS h t b]⟩ :: frs cs) = some gs := hst
          cases hst
          have m1 : ((r, p, ⟨some h, t, b⟩) : Cl) ∈ ((r, p, ⟨some h, t, b⟩) : Cl) :: (r2, p2, ⟨h2, t2, b2⟩) :: cs := by simp
          have m2 : ((r2, p2, ⟨h2, t2, b2⟩) : Cl) ∈ ((r, p, ⟨some h, t, b⟩) : Cl) :: (r2, p2, ⟨h2, t2, b2⟩) :: cs := by simp
          have e0 : M sa = some (.lst (((((r2, p2, ⟨h2, t2, b2⟩) : Cl) :: cs).reverse.map fun c => QL.D.ob c.1) ++ [.ob r])) := by rw [S.st]; simp
          have hb2 : b2.length ≤ 10000000 := hb _ m2
          have e1 : ∀ L, upm M sa L r = some (.ins A.c_Open (opF (opnD (some h)) (thnD t) p)) := fun L => (upm_ne (S.ne1s m1)).trans (S.ob _ m1)
          have e2 : ∀ L, upm M sa L p = some (.lst (smD b)) := fun L => (upm_ne (S.ps _ m1)).trans (S.bd _ m1)
          have e3 : ∀ L, upm M sa L r2 = some (.ins A.c_Open (opF (opnD h2) (thnD t2) p2)) := fun L => (upm_ne (S.ne1s m2)).trans (S.ob _ m2)
          have e4 : ∀ L, upm M sa L p2 = some (.lst (smD b2)) := fun L => (upm_ne (S.ps _ m2)).trans (S.bd _ m2)
          have er : ((((r2, p2, ⟨h2, t2, b2⟩) : Cl) :: cs).reverse.map fun c => QL.D.ob c.1) = (cs.reverse.map fun c => QL.D.ob c.1) ++ [.ob r2] := by simp
          (repeat (first | walk_at "q" | simp only [QL.D.ob.injEq, exists_and_left, exists_eq_left', MO.ins.injEq, Option.some.injEq, true_and, and_true, onL_same, upm_same, upm_upm, c3, c5, c6, onL_of e0]))
          refine ⟨rfl, rfl, rfl, rfl, rfl, rfl, ?_⟩
          rw [if_neg (by simp only [List.length_append, List.length_map, List.length_reverse, List.length_cons, List.length_nil]; omega)]
          refine ⟨rfl, rfl, ⟨_, e0⟩, .ob r, by simp, ?_⟩
          rw [List.dropLast_concat]
          refine ⟨r, rfl, _, e1 _, opF_c, r, p, h, t, b, rfl, e1 _, e2 _, fun lp n z => S.sc _ m1 lp n (by rw [z]), ?_⟩
          show onL _ sa _
          rw [onL_same]
          refine ⟨.ob r2, by rw [er, atI_l], r2, rfl, _, e3 _, _, opF_b, ?_⟩
          rw [isTy_list]
          refine ⟨⟨_, e4 _⟩, ?_⟩
          show onL _ p2 _
          rw [onL_of (e4 _)]
          refine ⟨by rw [smD_len, sizeLine_eq]; omega, _, Sub.refl _, ?_⟩
          have := SK.pop S (b2 ++ [closeS h t b])
          rw [smD_app] at this
          exact q _ _ this rfl
theorem step_len {fs gs : List Fr} {k : Lk} (h : step fs k = some gs) : gs.length ≤ fs.length + 1 ∧ ∀ n, (∀ f ∈ fs, f.b.length ≤ n) → ∀ f ∈ gs, f.b.length ≤ n + 1 := by
  unfold QL.step at h
  split at h
  · cases h
    refine ⟨by simp, fun n hn f hf => ?_⟩
    rcases List.mem_cons.mp hf with rfl | hf
    · have := hn _ (List.mem_cons_self ..)
      simp only [List.length_append, List.length_singleton]; simp only at this; omega
    · have := hn f (List.mem_cons_of_mem _ hf); omega
  · split at h
    · cases h
      refine ⟨by simp, fun n hn f hf => ?_⟩
      rcases List.mem_cons.mp hf with rfl | hf
      · exact Nat.zero_le _
      · have := hn f hf; omega
    · cases h
  · cases h
    refine ⟨by simp, fun n hn f hf => ?_⟩
    rcases List.mem_cons.mp hf with rfl | hf
    · exact Nat.zero_le _
    · have := hn f (List.mem_cons_of_mem _ hf); omega
  · cases h
    refine ⟨by simp, fun n hn f hf => ?_⟩
    rcases List.mem_cons.mp hf with rfl | hf
    · have := hn _ (List.mem_cons_of_mem _ (List.mem_cons_self ..))
      simp only [List.length_append, List.length_singleton]; simp only at this; omega
    · have := hn f (List.mem_cons_of_mem _ (List.mem_cons_of_mem _ hf)); omega
  · cases h
def sp_parse_body : SpD := fun ds M Q _ => ∃ (l : Tx) (rows : List Tx) (ks : List Lk) (b : List Sm), ds = [.str l] ∧ Rows l rows ∧ Rl rows ks ∧ runL [⟨none, none, []⟩] ks = some [⟨none, none, b⟩] ∧ rows.length ≤ 10000000 ∧ Q (.tup (smD b)) M
theorem ok_parse_body (T : Txt w K mg A) : FnD P w K mg base 92 A.a_parse_body A.d_parse_body ["text"] sp_parse_body := by
  refine fnD_of T.f_parse_body sc_parse_body (fun ds M Q E ⟨_, _, _, _, h, _⟩ => by rw [h]; rfl) (fun cdv A0 outer s H E hr => der_parse_body T (ok_Open__init T) (by decide) (ok_is_blank T) (by decide) (ok_take_line T) (by decide) (ok_read_line T) (by decide) cdv A0 outer s H E hr) ?_
  rintro ds M Q E ⟨l, rows, ks, b, rfl, hR, hL, hrun, hn, q⟩
  show w_parse_body A _ _ _ _ _ [some (.str l), none, none, none, none, none] M
  unfold w_parse_body
  (repeat (first | walk_at "q" | simp only [QL.D.ob.injEq, exists_and_left, exists_eq_left', MO.ins.injEq, Option.some.injEq, true_and, and_true, onL_same, upm_same, upm_upm]))
  intro r hr
  refine ⟨r, _, rfl, upm_same, fun p M1 hp e1 e2 e3 => ⟨rfl, fun sa hsa => ?_⟩⟩
  have p1 := upm_none hp
  refine rows_split hR fun a ha => ?_
  have a1 := upm_none ha
  have E3 : ∀ b, b ≠ r → b ≠ p → M1 b = M b := fun b x y => (e3 b x y).trans (upm_ne x)
  have nrs : r ≠ sa := mne e1 hsa
  have nps : p ≠ sa := mne e2 hsa
  have nra : r ≠ a := mne e1 a1.1
  have npa : p ≠ a := mne e2 a1.1
  have Msa : M sa = none := by rw [← E3 sa nrs.symm nps.symm]; exact hsa
  have Ma : M a = none := by rw [← E3 a nra.symm npa.symm]; exact a1.1
  have S0 : SK A (upm M a (.lst (rows.map QL.D.str))) (upm (upm M1 sa (.lst [.ob r])) a (.lst (rows.map QL.D.str))) sa [(r, p, ⟨none, none, []⟩)] := by
    refine ⟨fun b o z => ?_, (upm_ne a1.2.symm).trans Msa, (upm_ne a1.2.symm).trans upm_same, fun c hc => ?_, fun c hc => ?_, fun c hc => ?_, fun c hc => ?_, fun c hc => ?_, by simp, by simp, fun c hc => ?_⟩
    · by_cases hb : b = a
      · subst hb; rw [upm_same] at z ⊢; exact z
      · rw [upm_ne hb] at z ⊢
        rw [upm_ne (mne z Msa), E3 b (mne z hr) (mne z p1.1)]; exact z
    · rw [List.mem_singleton.mp hc]
      exact (upm_ne nra).trans ((upm_ne nrs).trans e1)
    · rw [List.mem_singleton.mp hc]
      exact (upm_ne npa).trans ((upm_ne nps).trans e2)
    · rw [List.mem_singleton.mp hc]; exact (upm_ne nra).trans hr
    · rw [List.mem_singleton.mp hc]; exact (upm_ne npa).trans p1.1
    · rw [List.mem_singleton.mp hc]; exact nps
    · rw [List.mem_singleton.mp hc]; intro _ _ z; cases z
  have subM : QL.Sub M (upm M a (.lst (rows.map QL.D.str))) := Sub.new Ma (Sub.refl _)
  (repeat (first | walk_at "q" | simp only [QL.D.ob.injEq, exists_and_left, exists_eq_left', MO.ins.injEq, Option.some.injEq, true_and, and_true, onL_same, upm_same, upm_upm]))
  obtain ⟨I, hI⟩ : ∃ I : Nat → QL.Env → Mp → Prop, I = fun i δ M' => ∃ (x y z : Option QL.D) (cs : List Cl) (kt : List Lk), δ = [some (.str l), some (.ob sa), some (.ob a), x, y, z] ∧ SK A (upm M a (.lst (rows.map QL.D.str))) M' sa cs ∧ Rl (rows.drop i) kt ∧ runL (frs cs) kt = some [⟨none, none, b⟩] ∧
      (∀ c ∈ cs, c.2.2.b.length ≤ i) ∧ cs.length ≤ i + 1 := ⟨_, rfl⟩
  refine for_list I ?_ ?_ ?_ ?_
  · rw [hI]
    exact ⟨none, none, none, _, ks, rfl, S0, by simpa using hL, hrun, fun c hc => by rw [List.mem_singleton.mp hc]; exact Nat.le_refl _, Nat.le_refl _⟩
  · intro i δ M' hi h
    rw [hI] at h
    obtain ⟨_, _, _, _, _, _, S, _⟩ := h
    exact S.sub a _ upm_same
  · intro i d δ M' hd h
    rw [hI] at h
    obtain ⟨x, y, z, cs, kt, rfl, S, hkt, hr2, hbl, hcl⟩ := h
    have hi : i < rows.length := by
      have := (List.getElem?_eq_some_iff.mp hd).1
      rwa [enumD_len, List.length_map] at this
    have hd2 : (rows.map QL.D.str)[i]? = some (.str rows[i]) := by rw [List.getElem?_map, List.getElem?_eq_getElem hi]; rfl
    rw [enumD_get hd2] at hd
    cases hd
    have ed : rows.drop i = rows[i] :: rows.drop (i + 1) := List.drop_eq_getElem_cons hi
    have hl := hR.sz rows[i] (List.getElem_mem hi)
    (repeat (first | walk_at "q" | simp only [QL.D.ob.injEq, exists_and_left, exists_eq_left', MO.ins.injEq, Option.some.injEq, true_and, and_true, onL_same, upm_same, upm_upm]))
    refine ⟨rows[i], rfl, hl, ?_⟩
    rw [ed] at hkt
    cases hkt with
    | bl h t =>
      (repeat (first | walk_at "q" | simp only [QL.D.ob.injEq, exists_and_left, exists_eq_left', MO.ins.injEq, Option.some.injEq, true_and, and_true, onL_same, upm_same, upm_upm, h]))
      rw [hI]
      exact ⟨_, _, _, cs, kt, rfl, S, t, hr2, fun c hc => by have := hbl c hc; omega, by omega⟩
    | ln h t =>
      rename_i k kt
      (repeat (first | walk_at "q" | simp only [QL.D.ob.injEq, exists_and_left, exists_eq_left', MO.ins.injEq, Option.some.injEq, true_and, and_true, onL_same, upm_same, upm_upm, line_nb lineP_nil h]))
      refine ⟨rows[i], rfl, hl, fun u hu => ?_, fun z => line_no h z⟩
      rw [line_one hu h]
      cases hs : step (frs cs) k with
      | none => rw [runL, hs] at hr2; cases hr2
      | some gs =>
        have hr2 : (step (frs cs) k).bind (fun gs => runL gs kt) = some [⟨none, none, b⟩] := hr2
        rw [hs, Option.bind_some] at hr2
        refine ⟨_, sa, cs, k, gs, rfl, S, hs, by omega, fun c hc => by have := hbl c hc; omega, fun ds' M'' S' hg => ?_⟩
        rw [hI]
        have sl := step_len hs
        refine ⟨_, _, _, ds', kt, rfl, S', t, by rw [hg]; exact hr2, fun c hc => ?_, ?_⟩
        · have := sl.2 i (fun f hf => by obtain ⟨c, hc, rfl⟩ := List.mem_map.mp hf; exact hbl c hc) c.2.2 (by rw [← hg]; exact List.mem_map.mpr ⟨c, hc, rfl⟩)
          exact this
        · have e1 : ds'.length = gs.length := by rw [← hg, List.length_map]
          have e2 : (frs cs).length = cs.length := List.length_map ..
          have := sl.1
          omega
  · intro δ M' h
    rw [hI] at h
    obtain ⟨x, y, z, cs, kt, rfl, S, hkt, hr2, hbl, hcl⟩ := h
    rw [List.drop_of_length_le (by rw [enumD_len, List.length_map]; exact Nat.le_refl _)] at hkt
    cases hkt
    have hr2 : some (frs cs) = some [⟨none, none, b⟩] := hr2
    have hr2 := Option.some.inj hr2
    cases cs with
    | nil => cases hr2
    | cons c cs => cases cs with
      | cons c2 cs => exact absurd (congrArg List.length hr2) (by simp)
      | nil =>
        obtain ⟨r1, p1, f⟩ := c
        have hf : f = ⟨none, none, b⟩ := by simpa using hr2
        subst hf
        have hst : M' sa = some (.lst [.ob r1]) := S.st
        have ho : M' r1 = some (.ins A.c_Open (opF (opnD none) .non p1)) := S.ob (r1, p1, ⟨none, none, b⟩) (by simp)
        have hbd : M' p1 = some (.lst (smD b)) := S.bd (r1, p1, ⟨none, none, b⟩) (by simp)
        (repeat (first | walk_at "q" | simp only [QL.D.ob.injEq, exists_and_left, exists_eq_left', MO.ins.injEq, Option.some.injEq, true_and, and_true, onL_same, upm_same, upm_upm, onL_of hst, ho, opF_b, onL_of hbd]))
        rw [if_neg (by decide)]
        exact ⟨M, fun b o z => S.sub b o (subM b o z), q⟩
end
section
variable {P : Program} {w : World} {K : PySem.W.Frag} {mg : Str → Option Value} {base : Heap} {A : Ads}
theorem ind_rep (d : Nat) : (List.replicate d (tx "  ")).flatten = indT d := by
  have e : tx "  " = [32, 32] := rfl
  rw [e]
  unfold indT
  induction d with
  | zero => rfl
  | succ d ih => rw [List.replicate_succ, List.flatten_cons, ih, show 2 * (d + 1) = 2 * d + 1 + 1 by omega, List.replicate_succ, List.replicate_succ]; rfl
def sp_inner_lines (n : Nat) : SpD := fun ds M Q _ => ∃ (b : List Sm) (d : Nat), ds = [.tup (smD b), .int d] ∧ nestL b ≤ n ∧ d + n ≤ 100 ∧ SmsSh b ∧ (smLT d b).length ≤ 1000000 ∧ ∀ p M', M p = none → QL.Sub M M' → M' p = some (.lst ((smLT d b).map QL.D.str)) → Q (.ob p) M'
def sp_statement_lines (n : Nat) : SpD := fun ds M Q _ => ∃ (s : Sm) (d : Nat), ds = [s.D, .int d] ∧ s.nest ≤ n ∧ d + n ≤ 100 ∧ SmSh s ∧ (smT d s).length ≤ 1000000 ∧ ∀ p M', M p = none → QL.Sub M M' → M' p = some (.lst ((smT d s).map QL.D.str)) → Q (.ob p) M'
theorem smD_at {b : List Sm} {i : Nat} {d : QL.D} (h : (smD b)[i]? = some d) : ∃ s, b[i]? = some s ∧ d = s.D := by
  rw [smD_map, List.getElem?_map] at h
  cases e : b[i]? with
  | none => rw [e] at h; cases h
  | some s => rw [e] at h; cases h; exact ⟨s, rfl, rfl⟩
theorem nest_at : ∀ {b : List Sm} {i : Nat} {s : Sm}, b[i]? = some s → s.nest ≤ nestL b
  | t :: r, 0, s, h => by cases h; show _ ≤ max _ _; omega
  | t :: r, i + 1, s, h => by
    have := nest_at (b := r) (i := i) (s := s) (by simpa using h)
    show _ ≤ max _ _; omega
theorem sh_at : ∀ {b : List Sm} {i : Nat} {s : Sm}, SmsSh b → b[i]? = some s → SmSh s
  | t :: r, 0, s, k, h => by cases h; exact k.1
  | t :: r, i + 1, s, k, h => sh_at (b := r) (i := i) k.2 (by simpa using h)
theorem smLT_one (d : Nat) (s : Sm) : smLT d [s] = smT d s := by show smT d s ++ [] = _; rw [List.append_nil]
theorem smLT_at {b : List Sm} {i : Nat} {s : Sm} (d : Nat) (h : b[i]? = some s) : smLT d (b.take (i + 1)) = smLT d (b.take i) ++ smT d s ∧ (smLT d (b.take i)).length + (smT d s).length ≤ (smLT d b).length := by
  have e1 : smLT d (b.take (i + 1)) = smLT d (b.take i) ++ smT d s := by rw [take_at h, smLT_app, smLT_one]
  refine ⟨e1, ?_⟩
  have e2 : smLT d b = smLT d (b.take (i + 1)) ++ smLT d (b.drop (i + 1)) := by rw [← smLT_app, List.take_append_drop]
  rw [e2, e1, List.length_append, List.length_append]; omega
theorem ok_inner_lines1 (T : Txt w K mg A) {n kc : Nat} (C : FnD P w K mg base kc A.a_statement_lines A.d_statement_lines ["statement", "depth"] (sp_statement_lines n)) : FnD P w K mg base (kc + 1) A.a_inner_lines A.d_inner_lines ["body", "depth"] (sp_inner_lines n) := by
  refine fnD_of T.f_inner_lines sc_inner_lines (fun ds M Q E ⟨_, _, h, _⟩ => by rw [h]; rfl) (fun cdv A0 outer s H E hr => der_inner_lines T C (Nat.le_refl _) cdv A0 outer s H E hr) ?_
  rintro ds M Q E ⟨b, d, rfl, hn, hd, hs, hl, k⟩
  show w_inner_lines A _ _ [some (.tup (smD b)), some (.int d), none, none] M
  unfold w_inner_lines
  (repeat (first | walk_at "q" | simp only [QL.D.ob.injEq, exists_and_left, exists_eq_left', MO.ins.injEq, Option.some.injEq, true_and, and_true, onL_same, upm_same, upm_upm]))
  intro p hp
  obtain ⟨I, hI⟩ : ∃ I : Nat → QL.Env → Mp → Prop, I = fun i δ M' => ∃ (x : Option QL.D), δ = [some (.tup (smD b)), some (.int d), some (.ob p), x] ∧ QL.Sub M M' ∧ M' p = some (.lst ((smLT d (b.take i)).map QL.D.str)) := ⟨_, rfl⟩
  refine for_list I ?_ ?_ ?_ ?_
  · rw [hI]; exact ⟨none, rfl, Sub.new hp (Sub.refl _), upm_same⟩
  · intros; trivial
  · intro i x δ M' hx h
    rw [hI] at h
    obtain ⟨x0, rfl, sb, hpp⟩ := h
    obtain ⟨s, hs1, rfl⟩ := smD_at hx
    obtain ⟨e1, e2⟩ := smLT_at d hs1
    (repeat (first | walk_at "q" | simp only [QL.D.ob.injEq, exists_and_left, exists_eq_left', MO.ins.injEq, Option.some.injEq, true_and, and_true, onL_same, upm_same, upm_upm, isTy_list]))
    refine ⟨⟨_, hpp⟩, s, d, rfl, Nat.le_trans (nest_at hs1) hn, hd, sh_at hs hs1, by omega, fun q M2 hq sb2 hq2 => ?_⟩
    have hp2 := sb2 _ _ hpp
    (repeat (first | walk_at "q" | simp only [QL.D.ob.injEq, exists_and_left, exists_eq_left', MO.ins.injEq, Option.some.injEq, true_and, and_true, onL_same, upm_same, upm_upm, onL_of hp2, onL_of hq2]))
    refine ⟨by rw [List.length_map, List.length_map, sizeLine_eq]; omega, ?_⟩
    rw [hI]
    refine ⟨_, rfl, fun a o z => ?_, ?_⟩
    · rw [upm_ne (mne z hp)]; exact sb2 _ _ (sb _ _ z)
    · rw [upm_same, e1, List.map_append]
  · intro δ M' h
    rw [hI] at h
    obtain ⟨x0, rfl, sb, hpp⟩ := h
    rw [smD_len, List.take_length] at hpp
    (repeat (first | walk_at "q" | simp only [QL.D.ob.injEq, exists_and_left, exists_eq_left', MO.ins.injEq, Option.some.injEq, true_and, and_true, onL_same, upm_same, upm_upm]))
    exact ⟨_, Sub.refl _, k p M' hp sb hpp⟩
theorem ok_statement_lines1 (T : Txt w K mg A) {n kc : Nat} {spc : SpD} (hk : 23 ≤ kc) (C : FnD P w K mg base kc A.a_inner_lines A.d_inner_lines ["body", "depth"] spc) (hc : ∀ m ds M Q E, n = m + 1 → sp_inner_lines m ds M Q E → spc ds M Q E) : FnD P w K mg base (kc + 1) A.a_statement_lines A.d_statement_lines ["statement", "depth"] (sp_statement_lines n) := by
  refine fnD_of T.f_statement_lines sc_statement_lines (fun ds M Q E ⟨_, _, h, _⟩ => by rw [h]; rfl) (fun cdv A0 outer s H E hr => der_statement_lines T (ok_deed_text T) hk (ok_expression_text T) (Nat.le_trans (by decide) hk) C (Nat.le_refl _) cdv A0 outer s H E hr) ?_
  rintro ds M Q E ⟨s, d, rfl, hn, hd, hs, hl, k⟩
  show w_statement_lines A _ _ _ _ [some s.D, some (.int d), none, none, none] M
  unfold w_statement_lines
  have l2 : (tx "  ").length = 2 := rfl
  have mulOk : (-1000000 : Int) ≤ (d : Int) ∧ (d : Int) ≤ 1000000 ∧ (tx "  ").length * (d : Int).toNat ≤ sizeLine ∧ (tx "  ").length ≤ sizeLine := by
    rw [l2, sizeLine_eq, Int.toNat_natCast]; omega
  have ei : (List.replicate (d : Int).toNat (tx "  ")).flatten = indT d := by rw [Int.toNat_natCast]; exact ind_rep d
  have c1 : ¬ tx "if" = tx "node" := by decide
  have c2 : ¬ tx "block" = tx "node" := by decide
  have c3 : ¬ tx "loop" = tx "node" := by decide
  have c4 : ¬ tx "break" = tx "node" := by decide
  have c5 : ¬ tx "continue" = tx "node" := by decide
  have c6 : ¬ tx "exit" = tx "node" := by decide
  have d2 : ¬ tx "block" = tx "if" := by decide
  have d3 : ¬ tx "loop" = tx "if" := by decide
  have d4 : ¬ tx "break" = tx "if" := by decide
  have d5 : ¬ tx "continue" = tx "if" := by decide
  have d6 : ¬ tx "exit" = tx "if" := by decide
  have li := indT_len d
  have sz := sizeLine_eq
  have t1 : (tx ": ").length = 2 := rfl
  have t2 : (tx ": if ").length = 5 := rfl
  have t3 : (tx " {").length = 2 := rfl
  have t4 : (tx "} else {").length = 8 := rfl
  have t5 : (tx "}").length = 1 := rfl
  have t6 : (tx " ").length = 1 := rfl
  have t7 : (tx "loop").length = 4 := rfl
  have t8 : (tx "block").length = 5 := rfl
  have t9 : (tx "exit").length = 4 := rfl
  have ta : (tx "break").length = 5 := rfl
  have tb : (tx "continue").length = 8 := rfl
  have f1 : [QL.D.str (tx "block"), QL.D.str (tx "loop")].any (fun x => deq x (.str (tx "block"))) = true := by simp only [List.any_cons, deq_str]; decide
  have f2 : [QL.D.str (tx "block"), QL.D.str (tx "loop")].any (fun x => deq x (.str (tx "loop"))) = true := by simp only [List.any_cons, deq_str]; decide
  have f3 : [QL.D.str (tx "block"), QL.D.str (tx "loop")].any (fun x => deq x (.str (tx "break"))) = false := by simp only [List.any_cons, List.any_nil, deq_str]; decide
  have f4 : [QL.D.str (tx "block"), QL.D.str (tx "loop")].any (fun x => deq x (.str (tx "continue"))) = false := by simp only [List.any_cons, List.any_nil, deq_str]; decide
  have f5 : [QL.D.str (tx "block"), QL.D.str (tx "loop")].any (fun x => deq x (.str (tx "exit"))) = false := by simp only [List.any_cons, List.any_nil, deq_str]; decide
  have a4 : ∀ (a b c d e : QL.D), atI [a, b, c, d, e] 4 = some e := fun _ _ _ _ _ => rfl
  have e1 : ((d : Int) + 1) = ((d + 1 : Nat) : Int) := by omega
  have none_of : ∀ {Ma : Mp} {x : Addr}, QL.Sub M Ma → Ma x = none → M x = none := fun {Ma x} sb z => by
    cases q : M x with
    | none => rfl
    | some o => have := sb x o q; rw [z] at this; cases this
  cases s with
  | node l dd =>
    have hs1 : l.length ≤ 11 := hs.1
    have dl := ddTx_len4 (m := 3) hs.2.2.1 hs.2.2.2 hs.2.1
    simp only [Sm.D]
    (repeat (first | walk_at "q" | simp only [QL.D.ob.injEq, exists_and_left, exists_eq_left', MO.ins.injEq, Option.some.injEq, true_and, and_true, onL_same, upm_same, upm_upm, mulOk, ei]))
    refine ⟨rfl, rfl, (by simp only [List.length_append, List.length_nil, li, t1, t2, t3, t4, t5, t6, t7, t8]; omega), (by simp only [List.length_append, List.length_nil, li, t1, t2, t3, t4, t5, t6, t7, t8]; omega), by omega, (by simp only [List.length_append, List.length_nil, li, t1, t2, t3, t4, t5, t6, t7, t8]; omega), (by simp only [List.length_append, List.length_nil, li, t1, t2, t3, t4, t5, t6, t7, t8]; omega), dd, rfl, hs.2.2.1, by have := hs.2.2.2; omega, hs.2.1, ?_⟩
    (repeat (first | walk_at "q" | simp only [QL.D.ob.injEq, exists_and_left, exists_eq_left', MO.ins.injEq, Option.some.injEq, true_and, and_true, onL_same, upm_same, upm_upm]))
    refine ⟨by omega, (by simp only [List.length_append, List.length_nil, li, t1, t2, t3, t4, t5, t6, t7, t8]; omega), fun p hp => ⟨_, Sub.refl _, k p _ hp (Sub.new hp (Sub.refl _)) ?_⟩⟩
    rw [upm_same]
    simp [smT]
  | cond l e a b =>
    have hs1 : l.length ≤ 11 := hs.1
    have te := txt_len e 0 hs.2.1
    have tp : 2 ^ e.ht ≤ 2 ^ 3 := Nat.pow_le_pow_right (by decide) hs.2.2.1
    have hn : 1 + max (nestL a) (nestL b) ≤ n := hn
    obtain ⟨m, rfl⟩ : ∃ m, n = m + 1 := ⟨n - 1, by omega⟩
    have hl2 : (smLT (d + 1) a).length + (smLT (d + 1) b).length + 2 ≤ (smT d (.cond l e a b)).length := by
      cases b with
      | nil =>
        show _ ≤ ((_ :: (smLT (d + 1) a ++ ([] ++ [_]))) : List Tx).length
        simp only [List.length_cons, List.length_append, List.length_nil, smLT]; omega
      | cons s r =>
        show (smLT (d + 1) a).length + (smT (d + 1) s ++ smLT (d + 1) r).length + 2 ≤ ((_ :: (smLT (d + 1) a ++ ((_ :: (smT (d + 1) s ++ smLT (d + 1) r)) ++ [_]))) : List Tx).length
        simp only [List.length_cons, List.length_append, List.length_nil]; omega
    have hsb := hs.2.2.2.2
    simp only [Sm.D]
    (repeat (first | walk_at "q" | simp only [QL.D.ob.injEq, exists_and_left, exists_eq_left', MO.ins.injEq, Option.some.injEq, true_and, and_true, onL_same, upm_same, upm_upm, mulOk, ei, c1]))
    refine ⟨rfl, rfl, rfl, rfl, (by simp only [List.length_append, List.length_nil, li, t1, t2, t3, t4, t5, t6, t7, t8]; omega), (by simp only [List.length_append, List.length_nil, li, t1, t2, t3, t4, t5, t6, t7, t8]; omega), by omega, (by simp only [List.length_append, List.length_nil, li, t1, t2, t3, t4, t5, t6, t7, t8]; omega), (by simp only [List.length_append, List.length_nil, li, t1, t2, t3, t4, t5, t6, t7, t8]; omega), e, rfl, by have := hs.2.2.1; omega, hs.2.1, ?_⟩
    (repeat (first | walk_at "q" | simp only [QL.D.ob.injEq, exists_and_left, exists_eq_left', MO.ins.injEq, Option.some.injEq, true_and, and_true, onL_same, upm_same, upm_upm]))
    refine ⟨by omega, (by simp only [List.length_append, List.length_nil, li, t1, t2, t3, t4, t5, t6, t7, t8]; omega), (by simp only [List.length_append, List.length_nil, li, t1, t2, t3, t4, t5, t6, t7, t8]; omega), fun p hp => ?_⟩
    rw [e1]
    have tail : ∀ (M2 : Mp) (L : List Tx), M2 p = some (.lst (L.map QL.D.str)) → QL.Sub M M2 → L ++ [indT d ++ tx "}"] = smT d (.cond l e a b) → L.length ≤ 1000000 →
        ((indT d).length + (tx "}").length ≤ sizeLine ∧ ∀ p1, M2 p1 = none → onL (upm M2 p1 (.lst [.str (indT d ++ tx "}")])) p fun xs => xs.length + 1 ≤ sizeLine ∧ ∀ p2, upm M2 p1 (.lst [.str (indT d ++ tx "}")]) p2 = none → endR Q (.ob p2) (upm (upm M2 p1 (.lst [.str (indT d ++ tx "}")])) p2 (.lst (xs ++ [.str (indT d ++ tx "}")])))) := by
      intro M2 L h2 sb2 eL lL
      refine ⟨(by simp only [List.length_append, List.length_nil, li, t1, t2, t3, t4, t5, t6, t7, t8]; omega), fun r hr => ?_⟩
      rw [onL_of ((upm_ne (mne h2 hr)).trans h2)]
      refine ⟨by rw [List.length_map]; omega, fun r2 hr2 => ⟨_, Sub.refl _, k r2 _ (none_of sb2 (upm_none hr2).1) (Sub.new (none_of sb2 (upm_none hr2).1) (Sub.new (none_of sb2 hr) sb2)) ?_⟩⟩
      rw [upm_same, ← eL, List.map_append]; rfl
    refine hc m _ _ _ _ rfl ⟨a, d + 1, rfl, by omega, by omega, hs.2.2.2.1, by omega, fun q M1 hq sb hq1 => ?_⟩
    have hp1 := sb _ _ upm_same
    have sbM : QL.Sub M M1 := fun x o z => sb x o ((upm_ne (mne z hp)).trans z)
    (repeat (first | walk_at "q" | simp only [QL.D.ob.injEq, exists_and_left, exists_eq_left', MO.ins.injEq, Option.some.injEq, true_and, and_true, onL_same, upm_same, upm_upm, onL_of hp1, onL_of hq1, a4]))
    have sb3 : ∀ o, QL.Sub M (upm M1 p o) := fun o x u z => (upm_ne (mne z hp)).trans (sbM x u z)
    refine ⟨by simp only [List.length_map, List.length_cons, List.length_nil]; omega, ?_⟩
    cases b with
    | nil =>
      (repeat (first | walk_at "q" | simp only [QL.D.ob.injEq, exists_and_left, exists_eq_left', MO.ins.injEq, Option.some.injEq, true_and, and_true, onL_same, upm_same, upm_upm, smD, List.isEmpty_nil]))
      refine tail _ ((indT d ++ (l ++ tx ": if " ++ txt 0 e ++ tx " {")) :: smLT (d + 1) a) ?_ (sb3 _) ?_ ?_
      · rw [upm_same]; simp
      · rfl
      · simp only [List.length_cons]; omega
    | cons s r =>
      (repeat (first | walk_at "q" | simp only [QL.D.ob.injEq, exists_and_left, exists_eq_left', MO.ins.injEq, Option.some.injEq, true_and, and_true, onL_same, upm_same, upm_upm, smD, List.isEmpty_cons, a4]))
      refine ⟨(by simp only [List.length_append, List.length_nil, li, t1, t2, t3, t4, t5, t6, t7, t8]; omega), by simp only [List.length_append, List.length_map, List.length_cons, List.length_nil]; omega, ?_⟩
      refine hc m _ _ _ _ rfl ⟨s :: r, d + 1, rfl, by omega, by omega, hsb, by omega, fun q2 M3 hq2 sb4 hq3 => ?_⟩
      have hp3 := sb4 _ _ upm_same
      have sbM3 : QL.Sub M M3 := fun x o z => sb4 x o ((upm_ne (mne z hp)).trans (sbM x o z))
      (repeat (first | walk_at "q" | simp only [QL.D.ob.injEq, exists_and_left, exists_eq_left', MO.ins.injEq, Option.some.injEq, true_and, and_true, onL_same, upm_same, upm_upm, onL_of hp3, onL_of hq3]))
      refine ⟨by simp only [List.length_append, List.length_map, List.length_cons, List.length_nil]; omega, ?_⟩
      refine tail _ ((indT d ++ (l ++ tx ": if " ++ txt 0 e ++ tx " {")) :: (smLT (d + 1) a ++ (indT d ++ tx "} else {") :: smLT (d + 1) (s :: r))) ?_ (fun x u z => (upm_ne (mne z hp)).trans (sbM3 x u z)) ?_ ?_
      · rw [upm_same]; simp
      · exact congrArg (List.cons _) (List.append_assoc _ _ _)
      · simp only [List.length_cons, List.length_append]; omega
  | scope lp nm b =>
    have hs1 : nm.length ≤ 11 := hs.1
    have hn : 1 + nestL b ≤ n := hn
    obtain ⟨m, rfl⟩ : ∃ m, n = m + 1 := ⟨n - 1, by omega⟩
    have hl2 : (smLT (d + 1) b).length + 2 ≤ (smT d (.scope lp nm b)).length := by
      show _ ≤ ((_ :: (smLT (d + 1) b ++ [_])) : List Tx).length
      simp only [List.length_cons, List.length_append, List.length_nil]; omega
    cases lp with
    | true =>
      simp only [Sm.D, scW, if_true]
      (repeat (first | walk_at "q" | simp only [QL.D.ob.injEq, exists_and_left, exists_eq_left', MO.ins.injEq, Option.some.injEq, true_and, and_true, onL_same, upm_same, upm_upm, mulOk, ei, c3, d3, f2]))
      refine ⟨rfl, rfl, rfl, rfl, rfl, rfl, (by simp only [List.length_append, List.length_nil, li, t1, t2, t3, t4, t5, t6, t7, t8]; omega), (by simp only [List.length_append, List.length_nil, li, t1, t2, t3, t4, t5, t6, t7, t8]; omega), (by simp only [List.length_append, List.length_nil, li, t1, t2, t3, t4, t5, t6, t7, t8]; omega), (by simp only [List.length_append, List.length_nil, li, t1, t2, t3, t4, t5, t6, t7, t8]; omega), (by simp only [List.length_append, List.length_nil, li, t1, t2, t3, t4, t5, t6, t7, t8]; omega), by omega, (by simp only [List.length_append, List.length_nil, li, t1, t2, t3, t4, t5, t6, t7, t8]; omega), (by simp only [List.length_append, List.length_nil, li, t1, t2, t3, t4, t5, t6, t7, t8]; omega), fun p hp => ?_⟩
      rw [e1]
      refine hc m _ _ _ _ rfl ⟨b, d + 1, rfl, by omega, by omega, hs.2, by omega, fun q M1 hq sb hq1 => ?_⟩
      have hp1 := sb _ _ upm_same
      have sbM : QL.Sub M M1 := fun x o z => sb x o ((upm_ne (mne z hp)).trans z)
      (repeat (first | walk_at "q" | simp only [QL.D.ob.injEq, exists_and_left, exists_eq_left', MO.ins.injEq, Option.some.injEq, true_and, and_true, onL_same, upm_same, upm_upm, onL_of hp1, onL_of hq1]))
      refine ⟨by simp only [List.length_map, List.length_cons, List.length_nil]; omega, fun r hr => ⟨(by simp only [List.length_append, List.length_nil, li, t1, t2, t3, t4, t5, t6, t7, t8]; omega), fun p3 h3 => ?_⟩⟩
      have h3' := upm_none h3
      have mr := none_of sbM hr
      have m3 := none_of sbM h3'.1
      rw [onL_of ((upm_ne h3'.2.symm).trans upm_same)]
      refine ⟨by simp only [List.length_append, List.length_map, List.length_cons, List.length_nil]; omega, fun r2 h4 => ?_⟩
      have m4 := none_of sbM (upm_none (upm_none h4).1).1
      refine ⟨_, Sub.refl _, k r2 _ m4 (Sub.new m4 (Sub.new m3 (Sub.new mr sbM))) ?_⟩
      rw [upm_same]
      simp [smT, scW]
    | false =>
      simp only [Sm.D, scW, Bool.false_eq_true, if_false]
      (repeat (first | walk_at "q" | simp only [QL.D.ob.injEq, exists_and_left, exists_eq_left', MO.ins.injEq, Option.some.injEq, true_and, and_true, onL_same, upm_same, upm_upm, mulOk, ei, c2, d2, f1]))
      refine ⟨rfl, rfl, rfl, rfl, rfl, rfl, (by simp only [List.length_append, List.length_nil, li, t1, t2, t3, t4, t5, t6, t7, t8]; omega), (by simp only [List.length_append, List.length_nil, li, t1, t2, t3, t4, t5, t6, t7, t8]; omega), (by simp only [List.length_append, List.length_nil, li, t1, t2, t3, t4, t5, t6, t7, t8]; omega), (by simp only [List.length_append, List.length_nil, li, t1, t2, t3, t4, t5, t6, t7, t8]; omega), (by simp only [List.length_append, List.length_nil, li, t1, t2, t3, t4, t5, t6, t7, t8]; omega), by omega, (by simp only [List.length_append, List.length_nil, li, t1, t2, t3, t4, t5, t6, t7, t8]; omega), (by simp only [List.length_append, List.length_nil, li, t1, t2, t3, t4, t5, t6, t7, t8]; omega), fun p hp => ?_⟩
      rw [e1]
      refine hc m _ _ _ _ rfl ⟨b, d + 1, rfl, by omega, by omega, hs.2, by omega, fun q M1 hq sb hq1 => ?_⟩
      have hp1 := sb _ _ upm_same
      have sbM : QL.Sub M M1 := fun x o z => sb x o ((upm_ne (mne z hp)).trans z)
      (repeat (first | walk_at "q" | simp only [QL.D.ob.injEq, exists_and_left, exists_eq_left', MO.ins.injEq, Option.some.injEq, true_and, and_true, onL_same, upm_same, upm_upm, onL_of hp1, onL_of hq1]))
      refine ⟨by simp only [List.length_map, List.length_cons, List.length_nil]; omega, fun r hr => ⟨(by simp only [List.length_append, List.length_nil, li, t1, t2, t3, t4, t5, t6, t7, t8]; omega), fun p3 h3 => ?_⟩⟩
      have h3' := upm_none h3
      have mr := none_of sbM hr
      have m3 := none_of sbM h3'.1
      rw [onL_of ((upm_ne h3'.2.symm).trans upm_same)]
      refine ⟨by simp only [List.length_append, List.length_map, List.length_cons, List.length_nil]; omega, fun r2 h4 => ?_⟩
      have m4 := none_of sbM (upm_none (upm_none h4).1).1
      refine ⟨_, Sub.refl _, k r2 _ m4 (Sub.new m4 (Sub.new m3 (Sub.new mr sbM))) ?_⟩
      rw [upm_same]
      simp [smT, scW]
  | jump c nm =>
    have hs1 : nm.length ≤ 11 := hs
    cases c with
    | true =>
      simp only [Sm.D, jmW, if_true]
      (repeat (first | walk_at "q" | simp only [QL.D.ob.injEq, exists_and_left, exists_eq_left', MO.ins.injEq, Option.some.injEq, true_and, and_true, onL_same, upm_same, upm_upm, mulOk, ei, c5, d5, f4]))
      refine ⟨rfl, rfl, rfl, rfl, rfl, rfl, [tx "continue", nm], rfl, ?_, ?_, fun p hp => ⟨_, Sub.refl _, k p _ hp (Sub.new hp (Sub.refl _)) ?_⟩⟩
      · unfold joinOk
        simp only [List.map_cons, List.map_nil, List.sum_cons, List.sum_nil, List.length_cons, List.length_nil, tb, t6]; omega
      · simp only [joinT, List.length_append, li, tb, t6]; omega
      · rw [upm_same]; rfl
    | false =>
      simp only [Sm.D, jmW, Bool.false_eq_true, if_false]
      (repeat (first | walk_at "q" | simp only [QL.D.ob.injEq, exists_and_left, exists_eq_left', MO.ins.injEq, Option.some.injEq, true_and, and_true, onL_same, upm_same, upm_upm, mulOk, ei, c4, d4, f3]))
      refine ⟨rfl, rfl, rfl, rfl, rfl, rfl, [tx "break", nm], rfl, ?_, ?_, fun p hp => ⟨_, Sub.refl _, k p _ hp (Sub.new hp (Sub.refl _)) ?_⟩⟩
      · unfold joinOk
        simp only [List.map_cons, List.map_nil, List.sum_cons, List.sum_nil, List.length_cons, List.length_nil, ta, t6]; omega
      · simp only [joinT, List.length_append, li, ta, t6]; omega
      · rw [upm_same]; rfl
  | exit =>
    simp only [Sm.D]
    (repeat (first | walk_at "q" | simp only [QL.D.ob.injEq, exists_and_left, exists_eq_left', MO.ins.injEq, Option.some.injEq, true_and, and_true, onL_same, upm_same, upm_upm, mulOk, ei, c6, d6, f5]))
    refine ⟨rfl, rfl, rfl, rfl, rfl, rfl, [tx "exit"], rfl, ?_, ?_, fun p hp => ⟨_, Sub.refl _, k p _ hp (Sub.new hp (Sub.refl _)) ?_⟩⟩
    · unfold joinOk
      simp only [List.map_cons, List.map_nil, List.sum_cons, List.sum_nil, List.length_cons, List.length_nil, t9, t6]; omega
    · simp only [joinT, List.length_append, li, t9, t6]; omega
    · rw [upm_same]; rfl
theorem ok_lines (T : Txt w K mg A) : ∀ n, FnD P w K mg base (24 + 2 * n) A.a_statement_lines A.d_statement_lines ["statement", "depth"] (sp_statement_lines n) ∧ FnD P w K mg base (25 + 2 * n) A.a_inner_lines A.d_inner_lines ["body", "depth"] (sp_inner_lines n)
  | 0 => by
    have a := ok_statement_lines1 (base := base) (P := P) T (n := 0) (kc := 23) (Nat.le_refl _) FnD.none (fun m _ _ _ _ h _ => by omega)
    exact ⟨a, ok_inner_lines1 T a⟩
  | n + 1 => by
    have ih := (ok_lines T n).2
    have a := ok_statement_lines1 (base := base) (P := P) T (n := n + 1) (kc := 25 + 2 * n) (by omega) ih (fun m ds M Q E h z => by cases h; exact z)
    have e : 25 + 2 * n + 1 = 24 + 2 * (n + 1) := by omega
    rw [e] at a
    have b := ok_inner_lines1 T a
    have e2 : 24 + 2 * (n + 1) + 1 = 25 + 2 * (n + 1) := by omega
    rw [e2] at b
    exact ⟨a, b⟩
def sp_body_text : SpD := fun ds M Q _ => ∃ b : List Sm, ds = [.tup (smD b)] ∧ nestL b ≤ 10 ∧ SmsSh b ∧ (smLT 0 b).length ≤ 100000 ∧ (joinT [10] (smLT 0 b)).length ≤ 8000000 ∧ ((smLT 0 b).map (·.length)).sum ≤ 8000000 ∧ Q (.str (joinT [10] (smLT 0 b))) M
theorem ok_body_text (T : Txt w K mg A) : FnD P w K mg base 46 A.a_body_text A.d_body_text ["body"] sp_body_text := by
  refine fnD_of T.f_body_text sc_body_text (fun ds M Q E ⟨_, h, _⟩ => by rw [h]; rfl) (fun cdv A0 outer s H E hr => der_body_text T (ok_lines T 10).2 (by decide) cdv A0 outer s H E hr) ?_
  rintro ds M Q E ⟨b, rfl, hn, hs, hc, hl, hj, k⟩
  show w_body_text A _ _ [some (.tup (smD b))] M
  unfold w_body_text
  (repeat (first | walk_at "q" | simp only [QL.D.ob.injEq, exists_and_left, exists_eq_left', MO.ins.injEq, Option.some.injEq, true_and, and_true, onL_same, upm_same, upm_upm]))
  refine ⟨b, 0, rfl, hn, by decide, hs, by omega, fun p M1 hp sb hp1 => ?_⟩
  (repeat (first | walk_at "q" | simp only [QL.D.ob.injEq, exists_and_left, exists_eq_left', MO.ins.injEq, Option.some.injEq, true_and, and_true, onL_same, upm_same, upm_upm, onL_of hp1]))
  have e10 : tx "\n" = [10] := rfl
  refine ⟨smLT 0 b, strsD_map _, ?_, M, sb, by rw [e10]; exact k⟩
  have sz := sizeLine_eq
  unfold joinOk
  rw [e10]
  simp only [List.length_cons, List.length_nil]
  omega
end
section
variable {P : Program} {w : World} {K : PySem.W.Frag} {mg : Str → Option Value} {base : Heap} {A : Ads}
def sp_law_spread : SpD := fun ds M Q _ => ∃ (a s p q : Addr) (xs : List Int) (ls : List Tx), ds = [.ob a, .ob s] ∧ a ≠ q ∧ M a = some (.lst (ls.map QL.D.str)) ∧ (∃ m : Nat, m ≤ 100000 ∧ 2 * ls.length * (3 * m + 4) ≤ 8000000 ∧ ∀ l ∈ ls, l.length ≤ m ∧ ¬ (10 : Nat) ∈ l) ∧ Stm s p q xs M ∧
  ∀ (u : Tx) (rows : List Tx) (M' : Mp), Spr ls rows → Rows u rows → QL.Drawn s p q xs M M' → Q (.str u) M'
theorem ok_law_spread (T : Txt w K mg A) : FnD P w K mg base 3 A.a_law_spread A.d_law_spread ["_law_lines", "_law_stream_here"] sp_law_spread := by
  refine fnD_of T.f_law_spread sc_law_spread (fun ds M Q E ⟨_, _, _, _, _, _, h, _⟩ => by rw [h]; rfl) (fun cdv A0 outer s H E hr => der_law_spread T (ok_law_next T) (by decide) (ok_law_loose T) (by decide) cdv A0 outer s H E hr) ?_
  rintro ds M Q E ⟨a, s, p, q, xs, ls, rfl, naq, ha, ⟨m, hm, hcount, hls⟩, S, k⟩
  show w_law_spread A _ _ _ [some (.ob a), some (.ob s), none, none, none] M
  unfold w_law_spread
  have hn : ls.length ≤ 1000000 := by
    have := Nat.mul_le_mul_left (2 * ls.length) (show 4 ≤ 3 * m + 4 by omega)
    omega
  have sz := sizeLine_eq
  have esp : tx " " = [32] := rfl
  (repeat (first | walk_at "q" | simp only [QL.D.ob.injEq, exists_and_left, exists_eq_left', MO.ins.injEq, Option.some.injEq, true_and, and_true, onL_same, upm_same, upm_upm]))
  intro r hr
  have nq := S.neq hr
  have nar : a ≠ r := mne ha hr
  have ha1 : upm M r (.lst []) a = some (.lst (ls.map QL.D.str)) := (upm_ne nar).trans ha
  (repeat (first | walk_at "q" | simp only [QL.D.ob.injEq, exists_and_left, exists_eq_left', MO.ins.injEq, Option.some.injEq, true_and, and_true, onL_same, upm_same, upm_upm, onL_of ha1]))
  have keep : ∀ {M1 M2 : Mp} {b : Addr} {o : MO}, QL.Drawn s p q xs M1 M2 → b ≠ q → M1 b = some o → M2 b = some o := fun d nb z => d.1 _ _ nb z
  let OkR (rs : List Tx) : Prop := ∀ l ∈ rs, l.length ≤ 3 * m + 3 ∧ ¬ (10 : Nat) ∈ l
  have okS : ∀ {rs : List Tx} {l : Tx}, OkR rs → l.length ≤ 3 * m + 3 → ¬ (10 : Nat) ∈ l → OkR (rs ++ [l]) := fun h a b x hx => by
    rcases List.mem_append.mp hx with z | z
    · exact h x z
    · rw [List.mem_singleton.mp z]; exact ⟨a, b⟩
  have put : ∀ {M1 : Mp} (o : MO), QL.Drawn s p q xs M M1 → QL.Drawn s p q xs M (upm M1 r o) := fun {M1} o h => by
    exact ⟨fun b o nb z => by rw [upm_ne (mne z hr)]; exact h.1 b o nb z, h.2.put nq.1 nq.2.1 nq.2.2⟩
  obtain ⟨I, hI⟩ : ∃ I : Nat → QL.Env → Mp → Prop, I = fun i δ M' => ∃ (x3 x4 : Option QL.D) (rs : List Tx), δ = [some (.ob a), some (.ob s), some (.ob r), x3, x4] ∧ QL.Drawn s p q xs M M' ∧ M' r = some (.lst (rs.map QL.D.str)) ∧ Spr (ls.take i) rs ∧ rs.length ≤ 2 * i ∧ i ≤ rs.length ∧ OkR rs := ⟨_, rfl⟩
  refine for_list I ?_ ?_ ?_ ?_
  · rw [hI]; exact ⟨none, none, [], rfl, drawn_new S.drawn hr, upm_same, .nil, by simp, by simp, fun l h => by cases h⟩
  · intro i δ M' _ h
    rw [hI] at h
    obtain ⟨_, _, _, _, d, _⟩ := h
    exact keep d naq ha
  · intro i dd δ M' hd h
    rw [hI] at h
    obtain ⟨x3, x4, rs, rfl, d, hrs, hS, hl1, hl0, hok⟩ := h
    rw [List.getElem?_map] at hd
    obtain ⟨l, hl, rfl⟩ := Option.map_eq_some_iff.mp hd
    have hi : i < ls.length := (List.getElem?_eq_some_iff.mp hl).1
    (repeat (first | walk_at "q" | simp only [QL.D.ob.injEq, exists_and_left, exists_eq_left', MO.ins.injEq, Option.some.injEq, true_and, and_true, onL_same, upm_same, upm_upm]))
    refine next_ok d.2 (by decide) fun v M1 v1 v2 d1 => ?_
    have hv4 : ((v : Int) / 4).toNat ≤ 1 := by omega
    (repeat (first | walk_at "q" | simp only [QL.D.ob.injEq, exists_and_left, exists_eq_left', MO.ins.injEq, Option.some.injEq, true_and, and_true, onL_same, upm_same, upm_upm]))
    refine ⟨by unfold CDiv; omega, by omega, ?_⟩
    obtain ⟨J, hJ⟩ : ∃ J : Nat → QL.Env → Mp → Prop, J = fun j δ M' => ∃ (x4 : Option QL.D) (rs : List Tx), δ = [some (.ob a), some (.ob s), some (.ob r), some (.str l), x4] ∧ QL.Drawn s p q xs M M' ∧ M' r = some (.lst (rs.map QL.D.str)) ∧ Spr (ls.take i) rs ∧ rs.length ≤ 2 * i + j ∧ i ≤ rs.length ∧ OkR rs := ⟨_, rfl⟩
    refine for_rng J ?_ ?_ ?_
    · rw [hJ]; exact ⟨_, rs, rfl, d.trans d1, keep d1 nq.1 hrs, hS, by omega, hl0, hok⟩
    · intro j δ M2 hj h
      rw [hJ] at h
      obtain ⟨x4, rs, rfl, d2, hrs, hS, hl1, hl0, hok⟩ := h
      (repeat (first | walk_at "q" | simp only [QL.D.ob.injEq, exists_and_left, exists_eq_left', MO.ins.injEq, Option.some.injEq, true_and, and_true, onL_same, upm_same, upm_upm]))
      refine ⟨⟨_, hrs⟩, next_ok d2.2 (by decide) fun v M3 v3 v4 d3 => ?_⟩
      have hrs3 := keep d3 nq.1 hrs
      (repeat (first | walk_at "q" | simp only [QL.D.ob.injEq, exists_and_left, exists_eq_left', MO.ins.injEq, Option.some.injEq, true_and, and_true, onL_same, upm_same, upm_upm, onL_of hrs3]))
      have ev : ((v : Int)).toNat = v := by omega
      rw [esp, ev, repSp]
      refine ⟨⟨by omega, by omega, by simp; omega, by simp; omega⟩, by rw [List.length_map]; omega, ?_⟩
      rw [hJ]
      exact ⟨_, rs ++ [List.replicate v 32], rfl, put _ (d2.trans d3), by rw [upm_same]; simp, hS.snoc_bl (bl_rep v), by simp; omega, by simp; omega, okS hok (by simp; omega) (bl_no10 (bl_rep v))⟩
    · intro δ M2 h
      rw [hJ] at h
      obtain ⟨x4, rs, rfl, d2, hrs, hS, hl1, hl0, hok⟩ := h
      have hll := hls l (List.mem_of_getElem? hl)
      (repeat (first | walk_at "q" | simp only [QL.D.ob.injEq, exists_and_left, exists_eq_left', MO.ins.injEq, Option.some.injEq, true_and, and_true, onL_same, upm_same, upm_upm]))
      refine ⟨⟨_, hrs⟩, s, p, q, xs, l, rfl, by omega, d2.2, fun u M3 hu lu cu d3 => ?_⟩
      have hrs3 := keep d3 nq.1 hrs
      (repeat (first | walk_at "q" | simp only [QL.D.ob.injEq, exists_and_left, exists_eq_left', MO.ins.injEq, Option.some.injEq, true_and, and_true, onL_same, upm_same, upm_upm, onL_of hrs3]))
      refine ⟨by rw [List.length_map]; omega, ?_⟩
      rw [hI]
      refine ⟨_, _, rs ++ [u], rfl, put _ (d2.trans d3), by rw [upm_same]; simp, ?_, by simp; omega, by simp; omega, okS hok (by omega) fun m => ?_⟩
      · rw [take_at hl]; exact hS.snoc_ln hu
      · rcases cu 10 m with z | z
        · cases z
        · exact hll.2 z
  · intro δ M' h
    rw [hI] at h
    obtain ⟨x3, x4, rs, rfl, d, hrs, hS, hl1, hl0, hok⟩ := h
    rw [List.length_map] at hS hl1 hl0
    rw [List.take_length] at hS
    (repeat (first | walk_at "q" | simp only [QL.D.ob.injEq, exists_and_left, exists_eq_left', MO.ins.injEq, Option.some.injEq, true_and, and_true, onL_same, upm_same, upm_upm, onL_of hrs]))
    have hs := sum_len fun x hx => (hok x hx).1
    have hj := joinN_len (c := 10) fun x hx => (hok x hx).1
    have hb : rs.length * (3 * m + 3 + 1) ≤ 8000000 := Nat.le_trans (Nat.mul_le_mul_right _ hl1) hcount
    have hb2 : rs.length * (3 * m + 3) ≤ rs.length * (3 * m + 3 + 1) := Nat.mul_le_mul_left _ (by omega)
    have l10 : (tx "\n").length = 1 := rfl
    have h1 : rs.length ≤ 2000000 := by omega
    cases rs with
    | nil =>
      have e0 : ls = [] := List.length_eq_zero_iff.mp (by simpa using hl0)
      subst e0
      refine ⟨[], rfl, by unfold joinOk; rw [l10]; simp, M', Sub.refl _, k _ [[]] M' (.bl rfl .nil) ⟨rfl, by simp, fun r h => by rw [List.mem_singleton.mp h]; simp, fun r h => by rw [List.mem_singleton.mp h]; simp, by show ([] : Tx).length ≤ 8000000; simp⟩ d⟩
    | cons r0 rs =>
      refine ⟨r0 :: rs, strsD_map _, ?_, M', Sub.refl _, k _ (r0 :: rs) M' hS ⟨rfl, by simp, fun r h => (hok r h).2, fun r h => by have := (hok r h).1; omega, ?_⟩ d⟩
      · unfold joinOk
        rw [l10]
        omega
      · show (joinT [10] (r0 :: rs)).length ≤ 8000000
        omega
end
section
variable {P : Program} {w : World} {K : PySem.W.Frag} {mg : Str → Option Value} {base : Heap} {A : Ads}
def sp_law_body_lines (n : Nat) : SpD := fun ds M Q _ => ∃ (b : List Sm) (d : Nat), ds = [.tup (smD b), .int d] ∧ nestL b ≤ n ∧ d + n ≤ 100 ∧ SmsSh b ∧ (smLT d b).length ≤ 1000000 ∧ ∀ p M', M p = none → QL.Sub M M' → M' p = some (.lst ((smLT d b).map QL.D.str)) → Q (.ob p) M'
theorem ok_law_body_lines1 (T : Txt w K mg A) {n kc : Nat} {spc : SpD} (hk : 8 ≤ kc) (C : FnD P w K mg base kc A.a_law_body_lines A.d_law_body_lines ["_law_body_here", "_law_depth"] spc) (hc : ∀ m ds M Q E, n = m + 1 → sp_law_body_lines m ds M Q E → spc ds M Q E) : FnD P w K mg base (kc + 1) A.a_law_body_lines A.d_law_body_lines ["_law_body_here", "_law_depth"] (sp_law_body_lines n) := by
  refine fnD_of T.f_law_body_lines sc_law_body_lines (fun ds M Q E ⟨_, _, h, _⟩ => by rw [h]; rfl) (fun cdv A0 outer s H E hr => der_law_body_lines T (ok_law_deed_text T) hk (ok_law_expression_text T 5) (Nat.le_trans (by decide) hk) C (Nat.le_refl _) cdv A0 outer s H E hr) ?_
  rintro ds M Q E ⟨b, d, rfl, hn, hd, hs, hl, k⟩
  show w_law_body_lines A _ _ _ _ [some (.tup (smD b)), some (.int d), none, none, none, none] M
  unfold w_law_body_lines
  have l2 : (tx "  ").length = 2 := rfl
  have mulOk : (-1000000 : Int) ≤ (d : Int) ∧ (d : Int) ≤ 1000000 ∧ (tx "  ").length * (d : Int).toNat ≤ sizeLine ∧ (tx "  ").length ≤ sizeLine := by
    rw [l2, sizeLine_eq, Int.toNat_natCast]; omega
  have ei : (List.replicate (d : Int).toNat (tx "  ")).flatten = indT d := by rw [Int.toNat_natCast]; exact ind_rep d
  have c1 : ¬ tx "if" = tx "node" := by decide
  have c2 : ¬ tx "block" = tx "node" := by decide
  have c3 : ¬ tx "loop" = tx "node" := by decide
  have c4 : ¬ tx "break" = tx "node" := by decide
  have c5 : ¬ tx "continue" = tx "node" := by decide
  have c6 : ¬ tx "exit" = tx "node" := by decide
  have d2 : ¬ tx "block" = tx "if" := by decide
  have d3 : ¬ tx "loop" = tx "if" := by decide
  have d4 : ¬ tx "break" = tx "if" := by decide
  have d5 : ¬ tx "continue" = tx "if" := by decide
  have d6 : ¬ tx "exit" = tx "if" := by decide
  have g4 : ¬ tx "break" = tx "exit" := by decide
  have g5 : ¬ tx "continue" = tx "exit" := by decide
  have li := indT_len d
  have sz := sizeLine_eq
  have t1 : (tx ": ").length = 2 := rfl
  have t2 : (tx ": if ").length = 5 := rfl
  have t3 : (tx " {").length = 2 := rfl
  have t4 : (tx "} else {").length = 8 := rfl
  have t5 : (tx "}").length = 1 := rfl
  have t6 : (tx " ").length = 1 := rfl
  have t7 : (tx "loop").length = 4 := rfl
  have t8 : (tx "block").length = 5 := rfl
  have t9 : (tx "exit").length = 4 := rfl
  have ta : (tx "break").length = 5 := rfl
  have tb : (tx "continue").length = 8 := rfl
  have f1 : [QL.D.str (tx "block"), QL.D.str (tx "loop")].any (fun x => deq x (.str (tx "block"))) = true := by simp only [List.any_cons, deq_str]; decide
  have f2 : [QL.D.str (tx "block"), QL.D.str (tx "loop")].any (fun x => deq x (.str (tx "loop"))) = true := by simp only [List.any_cons, deq_str]; decide
  have f3 : [QL.D.str (tx "block"), QL.D.str (tx "loop")].any (fun x => deq x (.str (tx "break"))) = false := by simp only [List.any_cons, List.any_nil, deq_str]; decide
  have f4 : [QL.D.str (tx "block"), QL.D.str (tx "loop")].any (fun x => deq x (.str (tx "continue"))) = false := by simp only [List.any_cons, List.any_nil, deq_str]; decide
  have f5 : [QL.D.str (tx "block"), QL.D.str (tx "loop")].any (fun x => deq x (.str (tx "exit"))) = false := by simp only [List.any_cons, List.any_nil, deq_str]; decide
  have a4 : ∀ (a b c d e : QL.D), atI [a, b, c, d, e] 4 = some e := fun _ _ _ _ _ => rfl
  have e1 : ((d : Int) + 1) = ((d + 1 : Nat) : Int) := by omega
  (repeat (first | walk_at "q" | simp only [QL.D.ob.injEq, exists_and_left, exists_eq_left', MO.ins.injEq, Option.some.injEq, true_and, and_true, onL_same, upm_same, upm_upm]))
  intro p hp
  (repeat (first | walk_at "q" | simp only [QL.D.ob.injEq, exists_and_left, exists_eq_left', MO.ins.injEq, Option.some.injEq, true_and, and_true, onL_same, upm_same, upm_upm, mulOk, ei]))
  obtain ⟨I, hI⟩ : ∃ I : Nat → QL.Env → Mp → Prop, I = fun i δ M' => ∃ (x y : Option QL.D), δ = [some (.tup (smD b)), some (.int d), some (.ob p), some (.str (indT d)), x, y] ∧ QL.Sub M M' ∧ M' p = some (.lst ((smLT d (b.take i)).map QL.D.str)) := ⟨_, rfl⟩
  refine for_list I ?_ ?_ ?_ ?_
  · rw [hI]; exact ⟨none, none, rfl, Sub.new hp (Sub.refl _), upm_same⟩
  · intros; trivial
  · intro i x δ M' hx h
    rw [hI] at h
    obtain ⟨x0, y0, rfl, sb, hpp⟩ := h
    obtain ⟨s, hs1, rfl⟩ := smD_at hx
    obtain ⟨e2, e3⟩ := smLT_at d hs1
    have hn1 := nest_at hs1
    have hsh := sh_at hs hs1
    have sb3 : ∀ {Ma : Mp} (o : MO), QL.Sub M Ma → QL.Sub M (upm Ma p o) := fun {Ma} o s x u z => (upm_ne (mne z hp)).trans (s x u z)
    have tmp : ∀ {g : Addr} (o : MO), M' g = none → QL.Sub M (upm M' g o) ∧ upm M' g o p = M' p := fun {g} o h => by
      have hg0 : M g = none := by
        cases q : M g with
        | none => rfl
        | some u => have := sb g u q; rw [h] at this; cases this
      exact ⟨Sub.new hg0 sb, upm_ne (mne hpp h)⟩
    have fin : ∀ (Ma : Mp) (x y : Option QL.D) (ws : List QL.D), QL.Sub M Ma → ws = ((smLT d (b.take i)).map QL.D.str) ++ (smT d s).map QL.D.str → I (i + 1) [some (.tup (smD b)), some (.int d), some (.ob p), some (.str (indT d)), x, y] (upm Ma p (.lst ws)) := by
      intro Ma x y ws s1 e
      rw [hI]
      exact ⟨x, y, rfl, sb3 _ s1, by rw [upm_same, e, e2, List.map_append]⟩
    cases s with
    | node l dd =>
      have hs2 : l.length ≤ 11 := hsh.1
      have dl := ddTx_len4 (m := 3) hsh.2.2.1 hsh.2.2.2 hsh.2.1
      simp only [Sm.D]
      (repeat (first | walk_at "q" | simp only [QL.D.ob.injEq, exists_and_left, exists_eq_left', MO.ins.injEq, Option.some.injEq, true_and, and_true, onL_same, upm_same, upm_upm]))
      refine ⟨rfl, rfl, ⟨_, hpp⟩, (by simp only [List.length_append, li, t1, t2, t3, t4, t5, t6, t7, t8, t9, ta, tb]; omega), (by simp only [List.length_append, li, t1, t2, t3, t4, t5, t6, t7, t8, t9, ta, tb]; omega), dd, rfl, hsh.2.2.1, by have := hsh.2.2.2; omega, hsh.2.1, ?_⟩
      (repeat (first | walk_at "q" | simp only [QL.D.ob.injEq, exists_and_left, exists_eq_left', MO.ins.injEq, Option.some.injEq, true_and, and_true, onL_same, upm_same, upm_upm, onL_of hpp]))
      refine ⟨(by simp only [List.length_append, li, t1, t2, t3, t4, t5, t6, t7, t8, t9, ta, tb]; omega), (by simp only [List.length_append, List.length_map, List.length_cons, List.length_nil]; omega), fin M' _ _ _ sb ?_⟩
      simp [smT]
    | cond l e a c =>
      have hs2 : l.length ≤ 11 := hsh.1
      have te := txt_len e 0 hsh.2.1
      have tp : 2 ^ e.ht ≤ 2 ^ 3 := Nat.pow_le_pow_right (by decide) hsh.2.2.1
      have hn1 : 1 + max (nestL a) (nestL c) ≤ nestL b := hn1
      obtain ⟨m, rfl⟩ : ∃ m, n = m + 1 := ⟨n - 1, by omega⟩
      have hl2 : (smLT (d + 1) a).length + (smLT (d + 1) c).length + 2 ≤ (smT d (.cond l e a c)).length := by
        cases c with
        | nil =>
          show _ ≤ ((_ :: (smLT (d + 1) a ++ ([] ++ [_]))) : List Tx).length
          simp only [List.length_cons, List.length_append, List.length_nil, smLT]; omega
        | cons s r =>
          show (smLT (d + 1) a).length + (smT (d + 1) s ++ smLT (d + 1) r).length + 2 ≤ ((_ :: (smLT (d + 1) a ++ ((_ :: (smT (d + 1) s ++ smLT (d + 1) r)) ++ [_]))) : List Tx).length
          simp only [List.length_cons, List.length_append, List.length_nil]; omega
      have hsc := hsh.2.2.2.2
      simp only [Sm.D]
      (repeat (first | walk_at "q" | simp only [QL.D.ob.injEq, exists_and_left, exists_eq_left', MO.ins.injEq, Option.some.injEq, true_and, and_true, onL_same, upm_same, upm_upm, c1]))
      refine ⟨rfl, rfl, rfl, rfl, ⟨_, hpp⟩, (by simp only [List.length_append, li, t1, t2, t3, t4, t5, t6, t7, t8, t9, ta, tb]; omega), (by simp only [List.length_append, li, t1, t2, t3, t4, t5, t6, t7, t8, t9, ta, tb]; omega), e, 0, rfl, by have := hsh.2.2.1; omega, by decide, hsh.2.1, ?_⟩
      (repeat (first | walk_at "q" | simp only [QL.D.ob.injEq, exists_and_left, exists_eq_left', MO.ins.injEq, Option.some.injEq, true_and, and_true, onL_same, upm_same, upm_upm, onL_of hpp]))
      refine ⟨(by simp only [List.length_append, li, t1, t2, t3, t4, t5, t6, t7, t8, t9, ta, tb]; omega), (by simp only [List.length_append, li, t1, t2, t3, t4, t5, t6, t7, t8, t9, ta, tb]; omega), (by simp only [List.length_append, List.length_map, List.length_cons, List.length_nil]; omega), ?_⟩
      rw [e1]
      refine hc m _ _ _ _ rfl ⟨a, d + 1, rfl, by omega, by omega, hsh.2.2.2.1, by omega, fun q M1 hq sb1 hq1 => ?_⟩
      have hp1 := sb1 _ _ upm_same
      have sbM : QL.Sub M M1 := (sb3 _ sb).trans sb1
      (repeat (first | walk_at "q" | simp only [QL.D.ob.injEq, exists_and_left, exists_eq_left', MO.ins.injEq, Option.some.injEq, true_and, and_true, onL_same, upm_same, upm_upm, onL_of hp1, onL_of hq1, a4]))
      refine ⟨(by simp only [List.length_append, List.length_map, List.length_cons, List.length_nil]; omega), ?_⟩
      cases c with
      | nil =>
        (repeat (first | walk_at "q" | simp only [QL.D.ob.injEq, exists_and_left, exists_eq_left', MO.ins.injEq, Option.some.injEq, true_and, and_true, onL_same, upm_same, upm_upm, smD, List.isEmpty_nil]))
        refine ⟨(by simp only [List.length_append, li, t1, t2, t3, t4, t5, t6, t7, t8, t9, ta, tb]; omega), (by simp only [List.length_append, List.length_map, List.length_cons, List.length_nil]; omega), fin M1 _ _ _ sbM ?_⟩
        simp [smT]
      | cons s r =>
        (repeat (first | walk_at "q" | simp only [QL.D.ob.injEq, exists_and_left, exists_eq_left', MO.ins.injEq, Option.some.injEq, true_and, and_true, onL_same, upm_same, upm_upm, smD, List.isEmpty_cons, a4]))
        refine ⟨(by simp only [List.length_append, li, t1, t2, t3, t4, t5, t6, t7, t8, t9, ta, tb]; omega), (by simp only [List.length_append, List.length_map, List.length_cons, List.length_nil]; omega), ?_⟩
        refine hc m _ _ _ _ rfl ⟨s :: r, d + 1, rfl, by omega, by omega, hsc, by omega, fun q2 M3 hq2 sb2 hq3 => ?_⟩
        have hp3 := sb2 _ _ upm_same
        have sbM3 : QL.Sub M M3 := (sb3 _ sbM).trans sb2
        (repeat (first | walk_at "q" | simp only [QL.D.ob.injEq, exists_and_left, exists_eq_left', MO.ins.injEq, Option.some.injEq, true_and, and_true, onL_same, upm_same, upm_upm, onL_of hp3, onL_of hq3]))
        refine ⟨(by simp only [List.length_append, List.length_map, List.length_cons, List.length_nil]; omega), (by simp only [List.length_append, li, t1, t2, t3, t4, t5, t6, t7, t8, t9, ta, tb]; omega), (by simp only [List.length_append, List.length_map, List.length_cons, List.length_nil]; omega), fin M3 _ _ _ sbM3 ?_⟩
        simp [smT, smLT]
    | scope lp nm c =>
      have hs2 : nm.length ≤ 11 := hsh.1
      have hn1 : 1 + nestL c ≤ nestL b := hn1
      obtain ⟨m, rfl⟩ : ∃ m, n = m + 1 := ⟨n - 1, by omega⟩
      have hl2 : (smLT (d + 1) c).length + 2 ≤ (smT d (.scope lp nm c)).length := by
        show _ ≤ ((_ :: (smLT (d + 1) c ++ [_])) : List Tx).length
        simp only [List.length_cons, List.length_append, List.length_nil]; omega
      cases lp with
      | true =>
        simp only [Sm.D, scW, if_true]
        (repeat (first | walk_at "q" | simp only [QL.D.ob.injEq, exists_and_left, exists_eq_left', MO.ins.injEq, Option.some.injEq, true_and, and_true, onL_same, upm_same, upm_upm, c3, d3, f2]))
        refine ⟨rfl, rfl, rfl, rfl, fun g hg => ?_⟩
        have hpg := tmp (.lst [QL.D.str (tx "block"), QL.D.str (tx "loop")]) hg
        have hppg := hpg.2.trans hpp
        (repeat (first | walk_at "q" | simp only [QL.D.ob.injEq, exists_and_left, exists_eq_left', MO.ins.injEq, Option.some.injEq, true_and, and_true, onL_same, upm_same, upm_upm, onL_of hppg]))
        refine ⟨rfl, rfl, ⟨_, hppg⟩, (by simp only [List.length_append, li, t1, t2, t3, t4, t5, t6, t7, t8, t9, ta, tb]; omega), (by simp only [List.length_append, li, t1, t2, t3, t4, t5, t6, t7, t8, t9, ta, tb]; omega), (by simp only [List.length_append, li, t1, t2, t3, t4, t5, t6, t7, t8, t9, ta, tb]; omega), (by simp only [List.length_append, li, t1, t2, t3, t4, t5, t6, t7, t8, t9, ta, tb]; omega), (by simp only [List.length_append, List.length_map, List.length_cons, List.length_nil]; omega), ?_⟩
        rw [e1]
        refine hc m _ _ _ _ rfl ⟨c, d + 1, rfl, by omega, by omega, hsh.2, by omega, fun q M1 hq sb1 hq1 => ?_⟩
        have hp1 := sb1 _ _ upm_same
        have sbM : QL.Sub M M1 := (sb3 _ hpg.1).trans sb1
        (repeat (first | walk_at "q" | simp only [QL.D.ob.injEq, exists_and_left, exists_eq_left', MO.ins.injEq, Option.some.injEq, true_and, and_true, onL_same, upm_same, upm_upm, onL_of hp1, onL_of hq1]))
        refine ⟨(by simp only [List.length_append, List.length_map, List.length_cons, List.length_nil]; omega), (by simp only [List.length_append, li, t1, t2, t3, t4, t5, t6, t7, t8, t9, ta, tb]; omega), (by simp only [List.length_append, List.length_map, List.length_cons, List.length_nil]; omega), fin M1 _ _ _ sbM ?_⟩
        simp [smT, scW]
      | false =>
        simp only [Sm.D, scW, Bool.false_eq_true, if_false]
        (repeat (first | walk_at "q" | simp only [QL.D.ob.injEq, exists_and_left, exists_eq_left', MO.ins.injEq, Option.some.injEq, true_and, and_true, onL_same, upm_same, upm_upm, c2, d2, f1]))
        refine ⟨rfl, rfl, rfl, rfl, fun g hg => ?_⟩
        have hpg := tmp (.lst [QL.D.str (tx "block"), QL.D.str (tx "loop")]) hg
        have hppg := hpg.2.trans hpp
        (repeat (first | walk_at "q" | simp only [QL.D.ob.injEq, exists_and_left, exists_eq_left', MO.ins.injEq, Option.some.injEq, true_and, and_true, onL_same, upm_same, upm_upm, onL_of hppg]))
        refine ⟨rfl, rfl, ⟨_, hppg⟩, (by simp only [List.length_append, li, t1, t2, t3, t4, t5, t6, t7, t8, t9, ta, tb]; omega), (by simp only [List.length_append, li, t1, t2, t3, t4, t5, t6, t7, t8, t9, ta, tb]; omega), (by simp only [List.length_append, li, t1, t2, t3, t4, t5, t6, t7, t8, t9, ta, tb]; omega), (by simp only [List.length_append, li, t1, t2, t3, t4, t5, t6, t7, t8, t9, ta, tb]; omega), (by simp only [List.length_append, List.length_map, List.length_cons, List.length_nil]; omega), ?_⟩
        rw [e1]
        refine hc m _ _ _ _ rfl ⟨c, d + 1, rfl, by omega, by omega, hsh.2, by omega, fun q M1 hq sb1 hq1 => ?_⟩
        have hp1 := sb1 _ _ upm_same
        have sbM : QL.Sub M M1 := (sb3 _ hpg.1).trans sb1
        (repeat (first | walk_at "q" | simp only [QL.D.ob.injEq, exists_and_left, exists_eq_left', MO.ins.injEq, Option.some.injEq, true_and, and_true, onL_same, upm_same, upm_upm, onL_of hp1, onL_of hq1]))
        refine ⟨(by simp only [List.length_append, List.length_map, List.length_cons, List.length_nil]; omega), (by simp only [List.length_append, li, t1, t2, t3, t4, t5, t6, t7, t8, t9, ta, tb]; omega), (by simp only [List.length_append, List.length_map, List.length_cons, List.length_nil]; omega), fin M1 _ _ _ sbM ?_⟩
        simp [smT, scW]
    | jump cc nm =>
      have hs2 : nm.length ≤ 11 := hsh
      cases cc with
      | true =>
        simp only [Sm.D, jmW, if_true]
        (repeat (first | walk_at "q" | simp only [QL.D.ob.injEq, exists_and_left, exists_eq_left', MO.ins.injEq, Option.some.injEq, true_and, and_true, onL_same, upm_same, upm_upm, c5, d5, f4, g5]))
        refine ⟨rfl, rfl, rfl, rfl, fun g hg => ?_⟩
        have hpg := tmp (.lst [QL.D.str (tx "block"), QL.D.str (tx "loop")]) hg
        have hppg := hpg.2.trans hpp
        (repeat (first | walk_at "q" | simp only [QL.D.ob.injEq, exists_and_left, exists_eq_left', MO.ins.injEq, Option.some.injEq, true_and, and_true, onL_same, upm_same, upm_upm, onL_of hppg]))
        refine ⟨rfl, rfl, rfl, rfl, ⟨_, hppg⟩, (by simp only [List.length_append, li, t1, t2, t3, t4, t5, t6, t7, t8, t9, ta, tb]; omega), (by simp only [List.length_append, li, t1, t2, t3, t4, t5, t6, t7, t8, t9, ta, tb]; omega), (by simp only [List.length_append, li, t1, t2, t3, t4, t5, t6, t7, t8, t9, ta, tb]; omega), (by simp only [List.length_append, List.length_map, List.length_cons, List.length_nil]; omega), fin _ _ _ _ hpg.1 ?_⟩
        simp [smT, jmW]
      | false =>
        simp only [Sm.D, jmW, Bool.false_eq_true, if_false]
        (repeat (first | walk_at "q" | simp only [QL.D.ob.injEq, exists_and_left, exists_eq_left', MO.ins.injEq, Option.some.injEq, true_and, and_true, onL_same, upm_same, upm_upm, c4, d4, f3, g4]))
        refine ⟨rfl, rfl, rfl, rfl, fun g hg => ?_⟩
        have hpg := tmp (.lst [QL.D.str (tx "block"), QL.D.str (tx "loop")]) hg
        have hppg := hpg.2.trans hpp
        (repeat (first | walk_at "q" | simp only [QL.D.ob.injEq, exists_and_left, exists_eq_left', MO.ins.injEq, Option.some.injEq, true_and, and_true, onL_same, upm_same, upm_upm, onL_of hppg]))
        refine ⟨rfl, rfl, rfl, rfl, ⟨_, hppg⟩, (by simp only [List.length_append, li, t1, t2, t3, t4, t5, t6, t7, t8, t9, ta, tb]; omega), (by simp only [List.length_append, li, t1, t2, t3, t4, t5, t6, t7, t8, t9, ta, tb]; omega), (by simp only [List.length_append, li, t1, t2, t3, t4, t5, t6, t7, t8, t9, ta, tb]; omega), (by simp only [List.length_append, List.length_map, List.length_cons, List.length_nil]; omega), fin _ _ _ _ hpg.1 ?_⟩
        simp [smT, jmW]
    | exit =>
      simp only [Sm.D]
      (repeat (first | walk_at "q" | simp only [QL.D.ob.injEq, exists_and_left, exists_eq_left', MO.ins.injEq, Option.some.injEq, true_and, and_true, onL_same, upm_same, upm_upm, c6, d6, f5]))
      refine ⟨rfl, rfl, rfl, rfl, fun g hg => ?_⟩
      have hpg := tmp (.lst [QL.D.str (tx "block"), QL.D.str (tx "loop")]) hg
      have hppg := hpg.2.trans hpp
      (repeat (first | walk_at "q" | simp only [QL.D.ob.injEq, exists_and_left, exists_eq_left', MO.ins.injEq, Option.some.injEq, true_and, and_true, onL_same, upm_same, upm_upm, onL_of hppg]))
      refine ⟨rfl, rfl, rfl, rfl, ⟨_, hppg⟩, (by simp only [List.length_append, li, t1, t2, t3, t4, t5, t6, t7, t8, t9, ta, tb]; omega), (by simp only [List.length_append, List.length_map, List.length_cons, List.length_nil]; omega), fin _ _ _ _ hpg.1 ?_⟩
      simp [smT]
  · intro δ M' h
    rw [hI] at h
    obtain ⟨x0, y0, rfl, sb, hpp⟩ := h
    rw [smD_len, List.take_length] at hpp
    (repeat (first | walk_at "q" | simp only [QL.D.ob.injEq, exists_and_left, exists_eq_left', MO.ins.injEq, Option.some.injEq, true_and, and_true, onL_same, upm_same, upm_upm]))
    exact ⟨_, Sub.refl _, k p M' hp sb hpp⟩
end
section
variable {P : Program} {w : World} {K : PySem.W.Frag} {mg : Str → Option Value} {base : Heap} {A : Ads}
def Ext2 (q t : Addr) (M M' : Mp) : Prop := ∀ a o, a ≠ q → a ≠ t → M a = some o → M' a = some o
theorem Ext2.trans {q t : Addr} {M M1 M2 : Mp} (a : Ext2 q t M M1) (b : Ext2 q t M1 M2) : Ext2 q t M M2 := fun c o n1 n2 h => b c o n1 n2 (a c o n1 n2 h)
theorem ext_two {q t : Addr} {M M' : Mp} (h : Ext q M M') : Ext2 q t M M' := fun a o n1 _ e => h a o n1 e
/-- where the drawing stands: the stream, the state, the body so far -/
structure LB (M : Mp) (s p q st g : Addr) (xs : List Int) (M' : Mp) (b : List Sm) (j : Nat) : Prop where
  ex : Ext2 q st M M'
  sm : Stm s p q xs M'
  hs : M' st = some (.lst ((labN j).map QL.D.str))
  hg : M' g = some (.lst (smD b))
structure LBC (M : Mp) (s p q st g : Addr) (xs : List Int) : Prop where
  n1 : st ≠ q
  n2 : st ≠ p
  n3 : st ≠ s
  ng : M g = none
  g1 : g ≠ q
  g2 : g ≠ p
  g3 : g ≠ s
  g4 : g ≠ st
theorem LB.draw {M M' M2 : Mp} {s p q st g : Addr} {xs : List Int} {b : List Sm} {j : Nat} (C : LBC M s p q st g xs) (h : LB M s p q st g xs M' b j) (d : QL.Drawn s p q xs M' M2) : LB M s p q st g xs M2 b j :=
  ⟨h.ex.trans (ext_two d.1), d.2, d.1 _ _ C.n1 h.hs, d.1 _ _ C.g1 h.hg⟩
theorem LB.new {M M' : Mp} {s p q st g a : Addr} {xs : List Int} {b : List Sm} {j : Nat} {o : MO} (h : LB M s p q st g xs M' b j) (ha : M' a = none) : LB M s p q st g xs (upm M' a o) b j :=
  ⟨fun c u n1 n2 e => (upm_ne (mne (h.ex c u n1 n2 e) ha)).trans (h.ex c u n1 n2 e), h.sm.new ha, (upm_ne (mne h.hs ha)).trans h.hs, (upm_ne (mne h.hg ha)).trans h.hg⟩
theorem LB.put {M M' : Mp} {s p q st g : Addr} {xs : List Int} {b : List Sm} {j i : Nat} (C : LBC M s p q st g xs) (h : LB M s p q st g xs M' b j) : LB M s p q st g xs (upm M' st (.lst ((labN i).map QL.D.str))) b i :=
  ⟨fun c u n1 n2 e => (upm_ne n2).trans (h.ex c u n1 n2 e), h.sm.put C.n1 C.n2 C.n3, upm_same, (upm_ne C.g4).trans h.hg⟩
theorem LB.app {M M' : Mp} {s p q st g : Addr} {xs : List Int} {b : List Sm} {j : Nat} (b' : List Sm) (C : LBC M s p q st g xs) (h : LB M s p q st g xs M' b j) : LB M s p q st g xs (upm M' g (.lst (smD b'))) b' j :=
  ⟨fun c u n1 n2 e => (upm_ne (mne e C.ng)).trans (h.ex c u n1 n2 e), h.sm.put C.g1 C.g2 C.g3, (upm_ne C.g4.symm).trans h.hs, upm_same⟩
theorem LB.call {M M' M2 : Mp} {s p q st g : Addr} {xs : List Int} {b : List Sm} {j i : Nat} (C : LBC M s p q st g xs) (h : LB M s p q st g xs M' b j) (e : Ext2 q st M' M2) (S : Stm s p q xs M2) (hs : M2 st = some (.lst ((labN i).map QL.D.str))) : LB M s p q st g xs M2 b i :=
  ⟨h.ex.trans e, S, hs, e _ _ C.g1 C.g4 h.hg⟩
theorem labN_len (k : Nat) : (labN k).length = k := by simp [labN]
theorem labN_succ (k : Nat) : (labN k).map QL.D.str ++ [.str (nlab k)] = (labN (k + 1)).map QL.D.str := by simp [labN, List.range_succ]
def lpD (bs : List Bool) : List QL.D := (bs.zipIdx.filter fun x => x.1).map fun x => .str (slab x.2)
theorem LB.snoc {M M' : Mp} {s p q st g : Addr} {xs : List Int} {b : List Sm} {j : Nat} (x : Sm) (C : LBC M s p q st g xs) (h : LB M s p q st g xs M' b j) : LB M s p q st g xs (upm M' g (.lst (smD b ++ [x.D]))) (b ++ [x]) j := by
  have := h.app (b ++ [x]) C
  rw [smD_app] at this
  exact this
theorem arD_len (bs : List Bool) : (arD bs).length = bs.length := by simp [arD]
theorem arD_at {bs : List Bool} {i : Nat} {d : QL.D} (h : (arD bs)[i]? = some d) : ∃ x, bs[i]? = some x ∧ d = .tup [.str (scW x), .str (slab i)] := by
  unfold arD at h
  rw [List.getElem?_map, List.getElem?_zipIdx] at h
  cases e : bs[i]? with
  | none => rw [e] at h; cases h
  | some x => rw [e] at h; cases h; exact ⟨x, rfl, by simp⟩
theorem arD_snoc (bs : List Bool) (x : Bool) : arD bs ++ [.tup [.str (scW x), .str (slab bs.length)]] = arD (bs ++ [x]) := by simp [arD, List.zipIdx_append]
theorem lpD_snoc (bs : List Bool) (x : Bool) : lpD (bs ++ [x]) = lpD bs ++ (if x = true then [.str (slab bs.length)] else []) := by
  cases x <;> simp [lpD, List.zipIdx_append, List.filter_append]
theorem lpD_at {bs : List Bool} {i : Nat} {d : QL.D} (h : (lpD bs)[i]? = some d) : ∃ j, bs[j]? = some true ∧ d = .str (slab j) := by
  have m := List.mem_of_getElem? h
  unfold lpD at m
  obtain ⟨x, hx, rfl⟩ := List.mem_map.mp m
  obtain ⟨hx, ht⟩ := List.mem_filter.mp hx
  obtain ⟨a, j⟩ := x
  have := List.mem_zipIdx' hx
  exact ⟨j, by rw [List.getElem?_eq_getElem this.1, ← this.2]; simpa using ht, rfl⟩
theorem lpD_len (bs : List Bool) : (lpD bs).length ≤ bs.length := by
  unfold lpD
  rw [List.length_map]
  exact Nat.le_trans (List.length_filter_le _ _) (by simp)
theorem loops_ok {ar lp : Addr} {bs : List Bool} {M2 : Mp} {Q' : Mp → Prop} {d0 d1 d2 d3 d4 d5 d6 d7 d8 d9 d10 d11 d12 d13 : Option QL.D} (har : M2 ar = some (.lst (arD bs))) (hlp : M2 lp = none) (h4 : bs.length ≤ 100) (k : Q' (upm M2 lp (.lst (lpD bs)))) :
    LcOk ⟨arD bs, fun M => M ar = some (.lst (arD bs))⟩ [8] (gN 8) (wTst (wOp eqD (wOp ixD (wVar 8) (wC (.int 0))) (wC (.str (tx "loop"))))) (wOp ixD (wVar 8) (wC (.int 1))) [d0, d1, d2, d3, d4, d5, d6, d7, d8, d9, d10, d11, d12, d13] M2 lp Q' := by
  have nal : ar ≠ lp := mne har hlp
  have sz := sizeLine_eq
  refine lc_list (fun i M' => M' = upm M2 lp (.lst (lpD (bs.take i)))) rfl (fun i M' _ h => by rw [h]; exact (upm_ne nal).trans har) (fun i d M' hd h => ?_) (fun M' h => ?_)
  · subst h
    obtain ⟨x, hx, rfl⟩ := arD_at hd
    have hi : i < bs.length := (List.getElem?_eq_some_iff.mp hx).1
    have ll := lpD_len (bs.take i)
    rw [List.length_take] at ll
    have e : lpD (bs.take (i + 1)) = lpD (bs.take i) ++ (if x = true then [.str (slab i)] else []) := by
      rw [take_at hx, lpD_snoc]
      have : (bs.take i).length = i := by rw [List.length_take]; omega
      rw [this]
    have c1 : ¬ tx "block" = tx "loop" := by decide
    cases x with
    | true =>
      simp only [scW, if_true]
      (repeat (first | walk_at "q" | simp only [QL.D.ob.injEq, exists_and_left, exists_eq_left', MO.ins.injEq, Option.some.injEq, true_and, and_true, onL_same, upm_same, upm_upm]))
      refine ⟨rfl, rfl, by omega, ?_⟩
      rw [e]; rfl
    | false =>
      simp only [scW, Bool.false_eq_true, if_false]
      (repeat (first | walk_at "q" | simp only [QL.D.ob.injEq, exists_and_left, exists_eq_left', MO.ins.injEq, Option.some.injEq, true_and, and_true, onL_same, upm_same, upm_upm, c1]))
      refine ⟨rfl, rfl, ?_⟩
      rw [e]; simp
  · subst h
    rw [arD_len, List.take_length]
    exact k
def sp_law_body (m : Nat) : SpD := fun ds M Q _ => ∃ (s p q st ar : Addr) (xs : List Int) (bs : List Bool) (k d : Nat), ds = [.ob s, .ob st, .ob ar, .int d] ∧ d + m = 4 ∧ Stm s p q xs M ∧ M st = some (.lst ((labN k).map QL.D.str)) ∧ st ≠ q ∧ st ≠ p ∧ st ≠ s ∧ k ≤ 12 ∧
  M ar = some (.lst (arD bs)) ∧ ar ≠ q ∧ ar ≠ st ∧ bs.length ≤ d ∧ ∀ (b : List Sm) (j : Nat) (M' : Mp), Bd m bs k b j → b.length ≤ 3 → j ≤ 12 → Ext2 q st M M' → Stm s p q xs M' → M' st = some (.lst ((labN j).map QL.D.str)) → Q (.tup (smD b)) M'
theorem ok_law_body1 (T : Txt w K mg A) {m kc : Nat} {spc : SpD} (hk : 6 ≤ kc) (C : FnD P w K mg base kc A.a_law_body A.d_law_body ["_law_stream_here", "_law_state", "_law_around", "_law_depth"] spc) (hc : ∀ m' ds M Q E, m = m' + 1 → sp_law_body m' ds M Q E → spc ds M Q E) :
    FnD P w K mg base (kc + 1) A.a_law_body A.d_law_body ["_law_stream_here", "_law_state", "_law_around", "_law_depth"] (sp_law_body m) := by
  refine fnD_of T.f_law_body sc_law_body (fun ds M Q E ⟨_, _, _, _, _, _, _, _, _, h, _⟩ => by rw [h]; rfl) (fun cdv A0 outer s H E hr => der_law_body T (ok_law_next T) (Nat.le_trans (by decide) hk) (ok_law_deed T) hk C (Nat.le_refl _) (ok_law_expression T 2) (Nat.le_trans (by decide) hk) cdv A0 outer s H E hr) ?_
  rintro ds M Q E ⟨s, p, q, st, ar, xs, bs, k, d, rfl, hdm, S, hst, n1, n2, n3, hk12, har, a1, a2, hbd, kq⟩
  show w_law_body A _ _ _ _ _ [some (.ob s), some (.ob st), some (.ob ar), some (.int d), none, none, none, none, none, none, none, none, none, none] M
  unfold w_law_body
  have sz := sizeLine_eq
  (repeat (first | walk_at "q" | simp only [QL.D.ob.injEq, exists_and_left, exists_eq_left', MO.ins.injEq, Option.some.injEq, true_and, and_true, onL_same, upm_same, upm_upm]))
  intro g hg
  obtain ⟨g1, g2, g3⟩ := S.neq hg
  have g4 : g ≠ st := (mne hst hg).symm
  have CC : LBC M s p q st g xs := ⟨n1, n2, n3, hg, g1, g2, g3, g4⟩
  refine next_ok (S.new hg) (by decide) fun c0 M0 b0 b1 d0 => ?_
  (repeat (first | walk_at "q" | simp only [QL.D.ob.injEq, exists_and_left, exists_eq_left', MO.ins.injEq, Option.some.injEq, true_and, and_true, onL_same, upm_same, upm_upm]))
  have S0 : LB M s p q st g xs M0 [] k := LB.draw CC ⟨fun c u _ _ e => (upm_ne (mne e hg)).trans e, S.new hg, (upm_ne g4.symm).trans hst, upm_same⟩ d0
  refine ⟨by omega, ?_⟩
  have er : ((1 : Int) + (c0 : Int)).toNat = c0 + 1 := by omega
  rw [er]
  have ret : ∀ (b : List Sm) (j : Nat) (M' : Mp), Bd m bs k b j → b.length ≤ 3 → j ≤ 12 → LB M s p q st g xs M' b j → endR Q (.tup (smD b)) M' := fun b j M' hb hl hj h => ⟨M', Sub.refl _, kq b j M' hb hl hj h.ex h.sm h.hs⟩
  obtain ⟨I, hI⟩ : ∃ I : Nat → QL.Env → Mp → Prop, I = fun i δ M' => ∃ (x5 x6 x7 x9 x10 x11 x12 x13 : Option QL.D) (b : List Sm) (j : Nat), δ = [some (.ob s), some (.ob st), some (.ob ar), some (.int d), some (.ob g), x5, x6, x7, none, x9, x10, x11, x12, x13] ∧ Bd m bs k b j ∧ b.length ≤ i ∧ j ≤ 12 ∧ LB M s p q st g xs M' b j := ⟨_, rfl⟩
  refine for_rng I ?_ ?_ ?_
  · rw [hI]; exact ⟨none, none, none, none, none, none, none, none, [], k, rfl, .nil, Nat.zero_le _, hk12, S0⟩
  · intro i δ M1 hi h
    rw [hI] at h
    obtain ⟨x5, x6, x7, x9, x10, x11, x12, x13, b, j, rfl, hB, hbl, hj, hL⟩ := h
    (repeat (first | walk_at "q" | simp only [QL.D.ob.injEq, exists_and_left, exists_eq_left', MO.ins.injEq, Option.some.injEq, true_and, and_true, onL_same, upm_same, upm_upm]))
    refine next_ok hL.sm (by decide) fun v M2 v1 v2 d2 => ?_
    have L2 := hL.draw CC d2
    have hlen : ((labN j).map QL.D.str).length = j := by rw [List.length_map, labN_len]
    have har2 : M2 ar = some (.lst (arD bs)) := L2.ex _ _ a1 a2 har
    have hb3 : b.length < 16777216 := by omega
    have l16 : (tx "abcdefghijklmnop").length = 16 := rfl
    have ln1 : (tx "n").length = 1 := rfl
    have ls1 : (tx "s").length = 1 := rfl
    have lab : ∀ c : Nat, c < 16 → atI (tx "abcdefghijklmnop") (c : Int) = some (L16.getD c 0) := fun c hc => by
      rw [atI_cast]
      have : c < (tx "abcdefghijklmnop").length := by omega
      rw [List.getElem?_eq_getElem this, List.getD_eq_getElem?_getD]
      show _ = some ((tx "abcdefghijklmnop")[c]?.getD 0)
      rw [List.getElem?_eq_getElem this]; rfl
    have ejm : j < 12 → ((j : Int) % 16) = ((j : Nat) : Int) := fun h => by omega
    have eLb : (labN j).map QL.D.str ++ [.str (tx "n" ++ [L16.getD j 0])] = (labN (j + 1)).map QL.D.str := labN_succ j
    have nD : ∀ dd : Dd, (Sm.node (nlab j) dd).D = .tup [.str (tx "node"), .str (tx "n" ++ [L16.getD j 0]), dd.D] := fun dd => by rw [Sm.D]; rfl
    have cD : ∀ (e : Ex) (a c : List Sm), (Sm.cond (nlab j) e a c).D = .tup [.str (tx "if"), .str (tx "n" ++ [L16.getD j 0]), e.D, .tup (smD a), .tup (smD c)] := fun e a c => by rw [Sm.D]; rfl
    have sD : ∀ (x : Bool) (a : List Sm), (Sm.scope x (slab bs.length) a).D = .tup [.str (scW x), .str (tx "s" ++ [L16.getD bs.length 0]), .tup (smD a)] := fun x a => by rw [Sm.D]; rfl
    by_cases h4 : (4 : Int) ≤ (d : Int)
    · have hv3 : (v : Int) % 3 ≤ 2 := by omega
      (repeat (first | walk_at "q" | simp only [QL.D.ob.injEq, exists_and_left, exists_eq_left', MO.ins.injEq, Option.some.injEq, true_and, and_true, onL_same, upm_same, upm_upm, onL_of L2.hs, hlen, h4, hv3, onL_of har2]))
      refine ite2 (fun h12 => ?_) (fun h12 => ?_)
      · rw [onL_of L2.hg]; exact ret b j M2 hB (by omega) hj L2
      refine ⟨by decide, fun lp hlp => loops_ok har2 hlp (by omega) ?_⟩
      have L3 := L2.new (o := .lst (lpD bs)) hlp
      have L4 := L3.put (i := j + 1) CC
      have hj12 : j < 12 := by omega
      (repeat (first | walk_at "q" | simp only [QL.D.ob.injEq, exists_and_left, exists_eq_left', MO.ins.injEq, Option.some.injEq, true_and, and_true, onL_same, upm_same, upm_upm, onL_of L3.hs, hlen, ejm hj12, lab j (by omega)]))
      rw [eLb]
      refine ⟨by decide, by rw [l16]; omega, by rw [ln1]; omega, ⟨_, L3.hs⟩, by omega, ⟨_, L4.hg⟩, s, p, q, xs, false, rfl, L4.sm, fun dd M5 o1 o2 o3 d5 => ?_⟩
      have L5 := L4.draw CC d5
      show onL M5 g _
      rw [onL_of L5.hg]
      refine ⟨by rw [smD_len]; omega, ?_⟩
      rw [hI]
      have z := L5.snoc (.node (nlab j) dd) CC
      rw [nD] at z
      exact ⟨_, _, _, _, _, _, _, _, b ++ [.node (nlab j) dd], j + 1, rfl, .node hB o1 o2 o3 hj12, by simp; omega, by omega, z⟩
    · obtain ⟨m, rfl⟩ : ∃ m', m = m' + 1 := ⟨m - 1, by omega⟩
      have hd4 : d < 4 := by omega
      have e1 : ((d : Int) + 1) = ((d + 1 : Nat) : Int) := by omega
      (repeat (first | walk_at "q" | simp only [QL.D.ob.injEq, exists_and_left, exists_eq_left', MO.ins.injEq, Option.some.injEq, true_and, and_true, onL_same, upm_same, upm_upm, onL_of L2.hs, hlen, h4, onL_of har2]))
      refine ite2 (fun h12 => ?_) (fun h12 => ?_)
      · rw [onL_of L2.hg]; exact ret b j M2 hB (by omega) hj L2
      intro lp hlp
      refine loops_ok har2 hlp (by omega) ?_
      have L3 := L2.new (o := .lst (lpD bs)) hlp
      have har3 : upm M2 lp (.lst (lpD bs)) ar = some (.lst (arD bs)) := L3.ex _ _ a1 a2 har
      have hlp3 : upm M2 lp (.lst (lpD bs)) lp = some (.lst (lpD bs)) := upm_same
      have L4 := L3.put (i := j + 1) CC
      have hj12 : j < 12 := by omega
      refine ite2 (fun hv2 => ?_) (fun hv2 => ite2 (fun hv4 => ?_) (fun hv4 => ite2 (fun hv6 => ?_) (fun hv6 => ?_)))
      · (repeat (first | walk_at "q" | simp only [QL.D.ob.injEq, exists_and_left, exists_eq_left', MO.ins.injEq, Option.some.injEq, true_and, and_true, onL_same, upm_same, upm_upm, onL_of L3.hs, hlen, ejm hj12, lab j (by omega)]))
        rw [eLb]
        refine ⟨by decide, by rw [l16]; omega, by rw [ln1]; omega, ⟨_, L3.hs⟩, by omega, ⟨_, L4.hg⟩, s, p, q, xs, false, rfl, L4.sm, fun dd M5 o1 o2 o3 d5 => ?_⟩
        have L5 := L4.draw CC d5
        show onL M5 g _
        rw [onL_of L5.hg]
        refine ⟨by rw [smD_len]; omega, ?_⟩
        rw [hI]
        have z := L5.snoc (.node (nlab j) dd) CC
        rw [nD] at z
        exact ⟨_, _, _, _, _, _, _, _, b ++ [.node (nlab j) dd], j + 1, rfl, .node hB o1 o2 o3 hj12, by simp; omega, by omega, z⟩
      · (repeat (first | walk_at "q" | simp only [QL.D.ob.injEq, exists_and_left, exists_eq_left', MO.ins.injEq, Option.some.injEq, true_and, and_true, onL_same, upm_same, upm_upm, onL_of L3.hs, hlen, ejm hj12, lab j (by omega), e1]))
        rw [eLb]
        have har4 := L4.ex _ _ a1 a2 har
        refine ⟨by decide, by rw [l16]; omega, by rw [ln1]; omega, ⟨_, L3.hs⟩, by omega, ?_⟩
        refine hc m _ _ _ _ rfl ⟨s, p, q, st, ar, xs, bs, j + 1, d + 1, rfl, by omega, L4.sm, L4.hs, n1, n2, n3, by omega, har4, a1, a2, by omega, fun a j1 M5 hBa la lj1 ex5 sm5 hs5 => ?_⟩
        have L5 := L4.call CC ex5 sm5 hs5
        (repeat (first | walk_at "q" | simp only [QL.D.ob.injEq, exists_and_left, exists_eq_left', MO.ins.injEq, Option.some.injEq, true_and, and_true, onL_same, upm_same, upm_upm]))
        refine next_ok L5.sm (by decide) fun c M6 c1 c2 d6 => ?_
        have L6 := L5.draw CC d6
        have har6 := L6.ex _ _ a1 a2 har
        (repeat (first | walk_at "q" | simp only [QL.D.ob.injEq, exists_and_left, exists_eq_left', MO.ins.injEq, Option.some.injEq, true_and, and_true, onL_same, upm_same, upm_upm]))
        have expr : ∀ (c2 : List Sm) (j2 : Nat) (M7 : Mp) (y : Option QL.D) , Bd m bs j1 c2 j2 → c2.length ≤ 3 → j2 ≤ 12 → LB M s p q st g xs M7 b j2 → (∃ ys, M7 g = some (MO.lst ys)) ∧ sp_law_expression 2 [.ob s, .int 2] M7 (fun e M8 => onL M8 g fun ys => ys.length < sizeLine ∧ I (i + 1) [some (.ob s), some (.ob st), some (.ob ar), some (.int d), some (.ob g), some (.int (0 + i)), some (.int v), some (.ob lp), none, some (.str (tx "n" ++ [L16.getD j 0])), some (.tup (smD a)), y, x12, x13] (upm M8 g (.lst (ys ++ [.tup [.str (tx "if"), .str (tx "n" ++ [L16.getD j 0]), e, .tup (smD a), .tup (smD c2)]]))))
            (fun x M => endX E x [some (.ob s), some (.ob st), some (.ob ar), some (.int d), some (.ob g), some (.int (0 + i)), some (.int v), some (.ob lp), none, some (.str (tx "n" ++ [L16.getD j 0])), some (.tup (smD a)), y, x12, x13] M) := by
          intro cc j2 M7 y hBc lc lj2 L7
          refine ⟨⟨_, L7.hg⟩, s, p, q, xs, rfl, L7.sm, fun e M8 he hh d8 => ?_⟩
          have L8 := L7.draw CC d8
          show onL M8 g _
          rw [onL_of L8.hg]
          refine ⟨by rw [smD_len]; omega, ?_⟩
          rw [hI]
          have z := L8.snoc (.cond (nlab j) e a cc) CC
          rw [cD] at z
          exact ⟨_, _, _, _, _, _, _, _, b ++ [.cond (nlab j) e a cc], j2, rfl, .cond hB hj12 he hh hBa hBc la lc, by simp; omega, lj2, z⟩
        refine ⟨rfl, rfl, ite2 (fun h => ?_) (fun h => ?_)⟩
        · refine hc m _ _ _ _ rfl ⟨s, p, q, st, ar, xs, bs, j1, d + 1, rfl, by omega, L6.sm, L6.hs, n1, n2, n3, lj1, har6, a1, a2, by omega, fun cc j2 M7 hBc lc lj2 ex7 sm7 hs7 => ?_⟩
          exact expr cc j2 M7 _ hBc lc lj2 (L6.call CC ex7 sm7 hs7)
        · exact expr [] j1 M6 _ .nil (Nat.zero_le _) lj1 L6
      · (repeat (first | walk_at "q" | simp only [QL.D.ob.injEq, exists_and_left, exists_eq_left', MO.ins.injEq, Option.some.injEq, true_and, and_true, onL_same, upm_same, upm_upm, e1]))
        intro g2 hg2
        have hg2q := (L3.sm.neq hg2).1
        have L5 := L3.new (o := .lst [QL.D.str (tx "block"), QL.D.str (tx "loop")]) hg2
        refine next_ok L5.sm (by decide) fun c M6 c1 c2 d6 => ?_
        have L6 := L5.draw CC d6
        have hw6 : M6 g2 = some (.lst [QL.D.str (tx "block"), QL.D.str (tx "loop")]) := d6.1 _ _ hg2q upm_same
        obtain ⟨x, hx⟩ : ∃ x : Bool, atI [QL.D.str (tx "block"), QL.D.str (tx "loop")] (c : Int) = some (.str (scW x)) := by
          have : c = 0 ∨ c = 1 := by omega
          rcases this with rfl | rfl
          · exact ⟨false, rfl⟩
          · exact ⟨true, rfl⟩
        have har6 := L6.ex _ _ a1 a2 har
        (repeat (first | walk_at "q" | simp only [QL.D.ob.injEq, exists_and_left, exists_eq_left', MO.ins.injEq, Option.some.injEq, true_and, and_true, onL_same, upm_same, upm_upm, onL_of hw6, hx, onL_of har6, arD_len, lab bs.length (by omega)]))
        refine ⟨by rw [l16]; omega, by rw [ls1]; omega, ⟨_, L6.hg⟩, fun g5 h5 => ?_⟩
        have L7 := L6.new (o := .lst [.tup [.str (scW x), .str (tx "s" ++ [L16.getD bs.length 0])]]) h5
        have har7 := L7.ex _ _ a1 a2 har
        rw [onL_of har7]
        refine ⟨by rw [arD_len]; omega, fun g6 h6 => ?_⟩
        have ea : arD bs ++ [.tup [.str (scW x), .str (tx "s" ++ [L16.getD bs.length 0])]] = arD (bs ++ [x]) := arD_snoc bs x
        rw [ea]
        have L8 := L7.new (o := .lst (arD (bs ++ [x]))) h6
        refine hc m _ _ _ _ rfl ⟨s, p, q, st, g6, xs, bs ++ [x], j, d + 1, rfl, by omega, L8.sm, L8.hs, n1, n2, n3, hj, upm_same, (L7.sm.neq h6).1, (mne L7.hs h6).symm, by simp; omega, fun a j1 M9 hBa la lj1 ex9 sm9 hs9 => ?_⟩
        have L9 := L8.call CC ex9 sm9 hs9
        show onL M9 g _
        rw [onL_of L9.hg]
        refine ⟨by rw [smD_len]; omega, ?_⟩
        rw [hI]
        have z := L9.snoc (.scope x (slab bs.length) a) CC
        rw [sD] at z
        exact ⟨_, _, _, _, _, _, _, _, b ++ [.scope x (slab bs.length) a], j1, rfl, .scope hB hBa la (by omega), by simp; omega, lj1, z⟩
      · have stay : ∀ (x5 x6 x7 x9 x10 x11 x12 x13 : Option QL.D), I (i + 1) [some (.ob s), some (.ob st), some (.ob ar), some (.int d), some (.ob g), x5, x6, x7, none, x9, x10, x11, x12, x13] (upm M2 lp (.lst (lpD bs))) := fun x5 x6 x7 x9 x10 x11 x12 x13 => by
          rw [hI]; exact ⟨x5, x6, x7, x9, x10, x11, x12, x13, b, j, rfl, hB, by omega, hj, L3⟩
        have retx : ∀ (x : Sm) (M' : Mp), Bd (m + 1) bs k (b ++ [x]) j → LB M s p q st g xs M' b j → endR Q (.tup (smD b ++ [x.D])) (upm M' g (.lst (smD b ++ [x.D]))) := fun x M' hb h => by
          have := ret (b ++ [x]) j _ hb (by simp; omega) hj (h.snoc x CC)
          rw [smD_app] at this
          exact this
        have v789 : v = 7 ∨ v = 8 ∨ v = 9 := by omega
        rcases v789 with rfl | rfl | rfl
        · have e7 : ((7 : Nat) : Int) = 7 := rfl
          have q78 : ¬ (7 : Int) = 8 := by decide
          have q79 : ¬ (7 : Int) = 9 := by decide
          (repeat (first | walk_at "q" | simp only [QL.D.ob.injEq, exists_and_left, exists_eq_left', MO.ins.injEq, Option.some.injEq, true_and, and_true, onL_same, upm_same, upm_upm, e7, tru_lst har3, q78, q79]))
          refine ⟨rfl, rfl, ite2 (fun hne => ?_) (fun _ => ?_)⟩
          · have hpos : 0 < bs.length := by
              cases bs with
              | nil => simp [arD] at hne
              | cons x r => simp
            (repeat (first | walk_at "q" | simp only [QL.D.ob.injEq, exists_and_left, exists_eq_left', MO.ins.injEq, Option.some.injEq, true_and, and_true, onL_same, upm_same, upm_upm, onL_of har3, arD_len]))
            refine ⟨⟨_, L3.hg⟩, next_ok L3.sm (by omega) fun c M6 c1 c2 d6 => ?_⟩
            have L6 := L3.draw CC d6
            have har6 := L6.ex _ _ a1 a2 har
            have hc : c < bs.length := by omega
            have hx : (arD bs)[c]? = some (.tup [.str (scW bs[c]), .str (slab c)]) := by simp [arD, List.getElem?_zipIdx, hc]
            (repeat (first | walk_at "q" | simp only [QL.D.ob.injEq, exists_and_left, exists_eq_left', MO.ins.injEq, Option.some.injEq, true_and, and_true, onL_same, upm_same, upm_upm, onL_of har6, atI_cast, hx, onL_of L6.hg]))
            exact ⟨by rw [smD_len]; omega, retx (.jump false (slab c)) M6 (.brk hB hc (by omega)) L6⟩
          · (repeat (first | walk_at "q" | simp only [QL.D.ob.injEq, exists_and_left, exists_eq_left', MO.ins.injEq, Option.some.injEq, true_and, and_true, onL_same, upm_same, upm_upm, e7, q78, q79]))
            exact ⟨rfl, rfl, rfl, rfl, stay _ _ _ _ _ _ _ _⟩
        · have e7 : ((8 : Nat) : Int) = 8 := rfl
          have q78 : ¬ (8 : Int) = 7 := by decide
          have q79 : ¬ (8 : Int) = 9 := by decide
          (repeat (first | walk_at "q" | simp only [QL.D.ob.injEq, exists_and_left, exists_eq_left', MO.ins.injEq, Option.some.injEq, true_and, and_true, onL_same, upm_same, upm_upm, e7, tru_lst hlp3, q78, q79]))
          refine ⟨rfl, rfl, rfl, rfl, ite2 (fun hne => ?_) (fun _ => ⟨rfl, rfl, stay _ _ _ _ _ _ _ _⟩)⟩
          have hpos : 0 < (lpD bs).length := by
            cases el : lpD bs with
            | nil => rw [el] at hne; simp at hne
            | cons x r => simp
          have ll := lpD_len bs
          refine ⟨⟨_, L3.hg⟩, next_ok L3.sm (by omega) fun c M6 c1 c2 d6 => ?_⟩
          have L6 := L3.draw CC d6
          have hlpq := (L2.sm.neq hlp).1
          have hlp6 : M6 lp = some (.lst (lpD bs)) := d6.1 _ _ hlpq hlp3
          have hc : c < (lpD bs).length := by omega
          obtain ⟨jj, hjj, hx⟩ := lpD_at (List.getElem?_eq_getElem hc)
          have hx : (lpD bs)[c]? = some (.str (slab jj)) := by rw [List.getElem?_eq_getElem hc, hx]
          (repeat (first | walk_at "q" | simp only [QL.D.ob.injEq, exists_and_left, exists_eq_left', MO.ins.injEq, Option.some.injEq, true_and, and_true, onL_same, upm_same, upm_upm, onL_of hlp6, atI_cast, hx, onL_of L6.hg]))
          exact ⟨by rw [smD_len]; omega, retx (.jump true (slab jj)) M6 (.cnt hB hjj (by omega)) L6⟩
        · have e7 : ((9 : Nat) : Int) = 9 := rfl
          have q78 : ¬ (9 : Int) = 7 := by decide
          have q79 : ¬ (9 : Int) = 8 := by decide
          (repeat (first | walk_at "q" | simp only [QL.D.ob.injEq, exists_and_left, exists_eq_left', MO.ins.injEq, Option.some.injEq, true_and, and_true, onL_same, upm_same, upm_upm, e7, q78, q79]))
          refine ⟨rfl, rfl, rfl, rfl, rfl, rfl, ite2 (fun _ => ?_) (fun _ => stay _ _ _ _ _ _ _ _)⟩
          (repeat (first | walk_at "q" | simp only [QL.D.ob.injEq, exists_and_left, exists_eq_left', MO.ins.injEq, Option.some.injEq, true_and, and_true, onL_same, upm_same, upm_upm, onL_of L3.hg]))
          exact ⟨⟨_, L3.hg⟩, by rw [smD_len]; omega, retx .exit _ (.exit hB (by omega)) L3⟩
  · intro δ M1 h
    rw [hI] at h
    obtain ⟨x5, x6, x7, x9, x10, x11, x12, x13, b, j, rfl, hB, hbl, hj, hL⟩ := h
    (repeat (first | walk_at "q" | simp only [QL.D.ob.injEq, exists_and_left, exists_eq_left', MO.ins.injEq, Option.some.injEq, true_and, and_true, onL_same, upm_same, upm_upm, onL_of hL.hg]))
    exact ret b j M1 hB (by omega) hj hL
end
section
variable {P : Program} {w : World} {K : PySem.W.Frag} {mg : Str → Option Value} {base : Heap} {A : Ads}
theorem ok_law_body (T : Txt w K mg A) : ∀ m, FnD P w K mg base (m + 7) A.a_law_body A.d_law_body ["_law_stream_here", "_law_state", "_law_around", "_law_depth"] (sp_law_body m)
  | 0 => ok_law_body1 T (kc := 6) (Nat.le_refl _) FnD.none fun m' _ _ _ _ h _ => by omega
  | m + 1 => ok_law_body1 T (kc := m + 7) (by omega) (ok_law_body T m) fun m' ds M Q E h z => by cases h; exact z
theorem ok_law_body_lines (T : Txt w K mg A) : ∀ n, FnD P w K mg base (n + 9) A.a_law_body_lines A.d_law_body_lines ["_law_body_here", "_law_depth"] (sp_law_body_lines n)
  | 0 => ok_law_body_lines1 T (kc := 8) (Nat.le_refl _) FnD.none fun m' _ _ _ _ h _ => by omega
  | n + 1 => ok_law_body_lines1 T (kc := n + 9) (by omega) (ok_law_body_lines T n) fun m' ds M Q E h z => by cases h; exact z
def sp_law_drawn_body : SpD := fun ds M Q _ => ∃ (sc : List Int) (f n : Nat), ds = [.fl (sc.map .int), .int f, .int n] ∧ 0 < n ∧ n ≤ 1000 ∧ ∀ (b : List Sm) (j : Nat) (M' : Mp), Bd 4 [] 0 b j → b.length ≤ 3 → QL.Sub M M' → Q (.tup (smD b)) M'
theorem ok_law_drawn_body (T : Txt w K mg A) : FnD P w K mg base 12 A.a_law_drawn_body A.d_law_drawn_body ["_law_script", "_law_first", "_law_count"] sp_law_drawn_body := by
  refine fnD_of T.f_law_drawn_body sc_law_drawn_body (fun ds M Q E ⟨_, _, _, h, _⟩ => by rw [h]; rfl) (fun cdv A0 outer s H E hr => der_law_drawn_body T (ok_law_stream T) (by decide) (ok_law_next T) (by decide) (ok_law_body T 4) (by decide) cdv A0 outer s H E hr) ?_
  rintro ds M Q E ⟨sc, f, n, rfl, hn0, hn1, k⟩
  show w_law_drawn_body A _ _ _ _ [some (.fl (sc.map .int)), some (.int f), some (.int n), none] M
  unfold w_law_drawn_body
  (repeat (first | walk_at "q" | simp only [QL.D.ob.injEq, exists_and_left, exists_eq_left', MO.ins.injEq, Option.some.injEq, true_and, and_true, onL_same, upm_same, upm_upm]))
  refine ⟨sc, f, n, rfl, hn0, hn1, fun s p q xs M1 sb ms mp mq S => ?_⟩
  (repeat (first | walk_at "q" | simp only [QL.D.ob.injEq, exists_and_left, exists_eq_left', MO.ins.injEq, Option.some.injEq, true_and, and_true, onL_same, upm_same, upm_upm]))
  refine next_ok S (by decide) fun v M2 a2 b2 d2 => ?_
  (repeat (first | walk_at "q" | simp only [QL.D.ob.injEq, exists_and_left, exists_eq_left', MO.ins.injEq, Option.some.injEq, true_and, and_true, onL_same, upm_same, upm_upm]))
  have sub2 : QL.Sub M M2 := fun a o z => d2.1 a o (mne z mq) (sb a o z)
  refine ⟨rfl, rfl, ite2 (fun _ => ⟨M2, Sub.refl _, k [] 0 M2 .nil (by decide) sub2⟩) (fun _ st hst ar har => ?_)⟩
  have S3 := d2.2.new (o := .lst []) hst
  have S4 := S3.new (o := .lst []) har
  have h1 := d2.2.neq hst
  have h2 := S3.neq har
  have nsa : st ≠ ar := mne upm_same har
  have none_of : ∀ {x : Addr}, M2 x = none → M x = none := fun {x} z => by
    cases e : M x with
    | none => rfl
    | some o => have := sub2 x o e; rw [z] at this; cases this
  refine ⟨s, p, q, st, ar, xs, [], 0, 0, rfl, rfl, S4, (upm_ne nsa).trans upm_same, h1.1, h1.2.1, h1.2.2, by decide, upm_same, h2.1, nsa.symm, Nat.le_refl _, fun b j M5 hB hl hj ex sm hs => ?_⟩
  refine ⟨M5, Sub.refl _, k b j M5 hB hl fun a o z => ?_⟩
  have z2 := sub2 a o z
  exact ex a o (mne z mq) (mne z (none_of hst)) ((upm_ne (mne z (none_of (upm_none har).1))).trans ((upm_ne (mne z (none_of hst))).trans z2))
/-- the text of a body, as rows -/
theorem body_rows {b : List Sm} (h : BodyOk b) : ∃ rows, Rows (joinT [10] (smLT 0 b)) rows ∧ Rl rows (flatL b) ∧ rows.length ≤ 10000000 := by
  have ln := lns_L b 0 h.ok
  have hj := joinN_len (c := 10) (ws := smLT 0 b) (m := 168) h.len
  have hc := h.cnt
  cases e : smLT 0 b with
  | nil =>
    rw [e] at ln
    refine ⟨[[]], ⟨rfl, by simp, fun r h => by rw [List.mem_singleton.mp h]; simp, fun r h => by rw [List.mem_singleton.mp h]; simp, by show ([] : Tx).length ≤ 8000000; simp⟩, ?_, by simp⟩
    generalize flatL b = ks at ln ⊢
    cases ln
    exact .bl rfl .nil
  | cons l ls =>
    rw [← e]
    refine ⟨smLT 0 b, ⟨rfl, by rw [e]; simp, ln.no10, fun r hr => by have := h.len r hr; omega, by omega⟩, ln.rl, by omega⟩
theorem parse_ok {b : List Sm} {u : Tx} {rows : List Tx} {M : Mp} {Q : KD} {E : XKD} (h : BodyOk b) (hr : Rows u rows) (hl : Rl rows (flatL b)) (hn : rows.length ≤ 10000000) (k : Q (.tup (smD b)) M) : sp_parse_body [.str u] M Q E :=
  ⟨u, rows, flatL b, b, rfl, hr, hl, run_body (by have := h.nest; omega), hn, k⟩
def lawLevel : Nat := 94
def sp_law : SpD := fun ds M Q _ => ∃ ns : List Int, ds = [.fl (ns.map .int)] ∧ ∀ M', Q (.bl true) M'
theorem same_ok {d : QL.D} {M : Mp} {Q : KD} {E : XKD} (h1 : okN 20 d = true) (h2 : okL d = true) (k : Q (.bl true) M) : sp_law_same 20 [d, d] M Q E := ⟨k, .inl ⟨d, rfl, h1, h2, by decide⟩⟩
theorem rows_len {u : Tx} {rows : List Tx} (h : Rows u rows) : rows.length ≤ 10000000 := by
  have : ∀ rows : List Tx, rows.length ≤ (joinT [10] rows).length + 1 := by
    intro rows
    induction rows with
    | nil => simp
    | cons r rs ih =>
      cases rs with
      | nil => simp
      | cons r2 rs =>
        rw [joinT_cons (by simp)]
        simp only [List.length_append, List.length_cons, List.length_nil] at ih ⊢
        omega
  have a := this rows
  rw [← h.e] at a
  have := h.len
  omega
theorem ok_law (T : Txt w K mg A) : FnD P w K mg base lawLevel A.a_law A.d_law ["_law_script"] sp_law := by
  refine fnD_of T.f_law sc_law (fun ds M Q E ⟨_, h, _⟩ => by rw [h]; rfl) (fun cdv A0 outer s H E hr => der_law T (ok_law_drawn_body T) (by decide) (ok_law_body_lines T 4) (by decide) (ok_law_same T 20) (by decide) (ok_parse_body T) (by decide) (ok_law_spread T) (by decide) (ok_law_stream T) (by decide) (ok_body_text T) (by decide) cdv A0 outer s H E hr) ?_
  rintro ds M Q E ⟨sc, rfl, k⟩
  show w_law A _ _ _ _ _ _ _ _ [some (.fl (sc.map .int)), none, none, none] M
  unfold w_law
  (repeat (first | walk_at "q" | simp only [QL.D.ob.injEq, exists_and_left, exists_eq_left', MO.ins.injEq, Option.some.injEq, true_and, and_true, onL_same, upm_same, upm_upm]))
  refine ⟨sc, 0, 30, rfl, by decide, by decide, fun b j M1 hB hl sb1 => ?_⟩
  have hb := hB.body hl
  have nok : okN 20 (.tup (smD b)) = true := okN_body hb.ok (by have := hb.nest; omega)
  have lok : okL (.tup (smD b)) = true := okL_body (by have := hb.wid; omega)
  have hcn := hb.cnt
  have hj := joinN_len (c := 10) (ws := smLT 0 b) (m := 168) hb.len
  have hsum := sum_len (ws := smLT 0 b) (m := 168) hb.len
  (repeat (first | walk_at "q" | simp only [QL.D.ob.injEq, exists_and_left, exists_eq_left', MO.ins.injEq, Option.some.injEq, true_and, and_true, onL_same, upm_same, upm_upm]))
  refine ⟨b, 0, rfl, hb.nest, by decide, hb.sh, by omega, fun p1 M2 hp1 sb2 hp2 => ?_⟩
  (repeat (first | walk_at "q" | simp only [QL.D.ob.injEq, exists_and_left, exists_eq_left', MO.ins.injEq, Option.some.injEq, true_and, and_true, onL_same, upm_same, upm_upm]))
  refine ⟨sc, 40, 20, rfl, by decide, by decide, fun s p q xs M3 sb3 ms mp mq S => ?_⟩
  have hp3 := sb3 _ _ hp2
  (repeat (first | walk_at "q" | simp only [QL.D.ob.injEq, exists_and_left, exists_eq_left', MO.ins.injEq, Option.some.injEq, true_and, and_true, onL_same, upm_same, upm_upm]))
  refine ⟨p1, s, p, q, xs, smLT 0 b, rfl, mne hp2 mq, hp3, ⟨168, by decide, by omega, fun l hl => ⟨hb.len l hl, (lns_L b 0 hb.ok).no10 l hl⟩⟩, S, fun u rows M4 hs hr d4 => ?_⟩
  have hp4 := d4.1 _ _ (mne hp2 mq) hp3
  refine parse_ok hb hr (spr_rl hs (lns_L b 0 hb.ok)) (rows_len hr) ?_
  refine same_ok nok lok ?_
  have e10 : tx "\n" = [10] := rfl
  (repeat (first | walk_at "q" | simp only [QL.D.ob.injEq, exists_and_left, exists_eq_left', MO.ins.injEq, Option.some.injEq, true_and, and_true, onL_same, upm_same, upm_upm, onL_of hp4, e10]))
  refine ⟨smLT 0 b, strsD_map _, by unfold joinOk; simp only [List.length_cons, List.length_nil]; omega, ?_⟩
  refine ⟨b, rfl, by have := hb.nest; omega, hb.sh, by omega, by omega, by omega, ?_⟩
  refine same_ok rfl rfl ?_
  (repeat (first | walk_at "q" | simp only [QL.D.ob.injEq, exists_and_left, exists_eq_left', MO.ins.injEq, Option.some.injEq, true_and, and_true, onL_same, upm_same, upm_upm]))
  obtain ⟨rows2, hr2, hl2, hn2⟩ := body_rows hb
  refine parse_ok hb hr2 hl2 hn2 ?_
  exact same_ok nok lok ⟨M4, Sub.refl _, k M4⟩
theorem law_room : Room lawLevel callerA := ⟨rfl, by decide, by decide⟩
theorem law_good (ns : List Int) (_ : ns.length ≤ 63) : sp_law [.fl (ns.map D.int)] (fun _ => none) (fun d _ => d = .bl true) (fun _ _ => False) := ⟨ns, rfl, fun _ => rfl⟩
end
theorem all_mk {w : World} {K : PySem.W.Frag} {h : Heap} {mg : Str → Option Value} {fa : Addr} (X : K.In h) (G : h.Ns mainGlobals mg) (hfa : mg "law" = some (.ref fa))
    {od_run_end an_run_end : Option Addr} {sl_run_end : Array (Option Value)} {oc_run_end kV_run_end dc_run_end pm_run_end cd_run_end ct_run_end : Value} {aa_run_end : Addr}
    {od_number_of an_number_of : Option Addr} {sl_number_of : Array (Option Value)} {oc_number_of kV_number_of dc_number_of pm_number_of cd_number_of ct_number_of : Value} {aa_number_of : Addr}
    {od_word_end an_word_end : Option Addr} {sl_word_end : Array (Option Value)} {oc_word_end kV_word_end dc_word_end pm_word_end cd_word_end ct_word_end : Value} {aa_word_end : Addr}
    {od_signs_of an_signs_of : Option Addr} {sl_signs_of : Array (Option Value)} {oc_signs_of kV_signs_of dc_signs_of pm_signs_of cd_signs_of ct_signs_of : Value} {aa_signs_of : Addr}
    {od_is_name an_is_name : Option Addr} {sl_is_name : Array (Option Value)} {oc_is_name kV_is_name dc_is_name pm_is_name cd_is_name ct_is_name : Value} {aa_is_name : Addr}
    {od_is_label an_is_label : Option Addr} {sl_is_label : Array (Option Value)} {oc_is_label kV_is_label dc_is_label pm_is_label cd_is_label ct_is_label : Value} {aa_is_label : Addr}
    {od_Reader__init an_Reader__init : Option Addr} {sl_Reader__init : Array (Option Value)} {oc_Reader__init kV_Reader__init dc_Reader__init pm_Reader__init cd_Reader__init ct_Reader__init : Value} {aa_Reader__init : Addr}
    {od_Reader_peek an_Reader_peek : Option Addr} {sl_Reader_peek : Array (Option Value)} {oc_Reader_peek kV_Reader_peek dc_Reader_peek pm_Reader_peek cd_Reader_peek ct_Reader_peek : Value} {aa_Reader_peek : Addr}
    {od_Reader_take an_Reader_take : Option Addr} {sl_Reader_take : Array (Option Value)} {oc_Reader_take kV_Reader_take dc_Reader_take pm_Reader_take cd_Reader_take ct_Reader_take : Value} {aa_Reader_take : Addr}
    {od_Reader_skip an_Reader_skip : Option Addr} {sl_Reader_skip : Array (Option Value)} {oc_Reader_skip kV_Reader_skip dc_Reader_skip pm_Reader_skip cd_Reader_skip ct_Reader_skip : Value} {aa_Reader_skip : Addr}
    {od_Reader_expect an_Reader_expect : Option Addr} {sl_Reader_expect : Array (Option Value)} {oc_Reader_expect kV_Reader_expect dc_Reader_expect pm_Reader_expect cd_Reader_expect ct_Reader_expect : Value} {aa_Reader_expect : Addr}
    {od_Reader_take_name an_Reader_take_name : Option Addr} {sl_Reader_take_name : Array (Option Value)} {oc_Reader_take_name kV_Reader_take_name dc_Reader_take_name pm_Reader_take_name cd_Reader_take_name ct_Reader_take_name : Value} {aa_Reader_take_name : Addr}
    {od_Reader_take_label an_Reader_take_label : Option Addr} {sl_Reader_take_label : Array (Option Value)} {oc_Reader_take_label kV_Reader_take_label dc_Reader_take_label pm_Reader_take_label cd_Reader_take_label ct_Reader_take_label : Value} {aa_Reader_take_label : Addr}
    {od_Reader_finish an_Reader_finish : Option Addr} {sl_Reader_finish : Array (Option Value)} {oc_Reader_finish kV_Reader_finish dc_Reader_finish pm_Reader_finish cd_Reader_finish ct_Reader_finish : Value} {aa_Reader_finish : Addr}
    {od_is_blank an_is_blank : Option Addr} {sl_is_blank : Array (Option Value)} {oc_is_blank kV_is_blank dc_is_blank pm_is_blank cd_is_blank ct_is_blank : Value} {aa_is_blank : Addr}
    {od_joined an_joined : Option Addr} {sl_joined : Array (Option Value)} {oc_joined kV_joined dc_joined pm_joined cd_joined ct_joined : Value} {aa_joined : Addr}
    {od_read_primary an_read_primary : Option Addr} {sl_read_primary : Array (Option Value)} {oc_read_primary kV_read_primary dc_read_primary pm_read_primary cd_read_primary ct_read_primary : Value} {aa_read_primary : Addr}
    {od_read_product an_read_product : Option Addr} {sl_read_product : Array (Option Value)} {oc_read_product kV_read_product dc_read_product pm_read_product cd_read_product ct_read_product : Value} {aa_read_product : Addr}
    {od_read_sum an_read_sum : Option Addr} {sl_read_sum : Array (Option Value)} {oc_read_sum kV_read_sum dc_read_sum pm_read_sum cd_read_sum ct_read_sum : Value} {aa_read_sum : Addr}
    {od_read_comparison an_read_comparison : Option Addr} {sl_read_comparison : Array (Option Value)} {oc_read_comparison kV_read_comparison dc_read_comparison pm_read_comparison cd_read_comparison ct_read_comparison : Value} {aa_read_comparison : Addr}
    {od_read_expression an_read_expression : Option Addr} {sl_read_expression : Array (Option Value)} {oc_read_expression kV_read_expression dc_read_expression pm_read_expression cd_read_expression ct_read_expression : Value} {aa_read_expression : Addr}
    {od_text_at an_text_at : Option Addr} {sl_text_at : Array (Option Value)} {oc_text_at kV_text_at dc_text_at pm_text_at cd_text_at ct_text_at : Value} {aa_text_at : Addr}
    {od_expression_text an_expression_text : Option Addr} {sl_expression_text : Array (Option Value)} {oc_expression_text kV_expression_text dc_expression_text pm_expression_text cd_expression_text ct_expression_text : Value} {aa_expression_text : Addr}
    {od_read_deed an_read_deed : Option Addr} {sl_read_deed : Array (Option Value)} {oc_read_deed kV_read_deed dc_read_deed pm_read_deed cd_read_deed ct_read_deed : Value} {aa_read_deed : Addr}
    {od_deed_text an_deed_text : Option Addr} {sl_deed_text : Array (Option Value)} {oc_deed_text kV_deed_text dc_deed_text pm_deed_text cd_deed_text ct_deed_text : Value} {aa_deed_text : Addr}
    {od_Open__init an_Open__init : Option Addr} {sl_Open__init : Array (Option Value)} {oc_Open__init kV_Open__init dc_Open__init pm_Open__init cd_Open__init ct_Open__init : Value} {aa_Open__init : Addr}
    {od_Open_closed an_Open_closed : Option Addr} {sl_Open_closed : Array (Option Value)} {oc_Open_closed kV_Open_closed dc_Open_closed pm_Open_closed cd_Open_closed ct_Open_closed : Value} {aa_Open_closed : Addr}
    {od_read_labelled an_read_labelled : Option Addr} {sl_read_labelled : Array (Option Value)} {oc_read_labelled kV_read_labelled dc_read_labelled pm_read_labelled cd_read_labelled ct_read_labelled : Value} {aa_read_labelled : Addr}
    {od_read_worded an_read_worded : Option Addr} {sl_read_worded : Array (Option Value)} {oc_read_worded kV_read_worded dc_read_worded pm_read_worded cd_read_worded ct_read_worded : Value} {aa_read_worded : Addr}
    {od_read_line an_read_line : Option Addr} {sl_read_line : Array (Option Value)} {oc_read_line kV_read_line dc_read_line pm_read_line cd_read_line ct_read_line : Value} {aa_read_line : Addr}
    {od_take_line an_take_line : Option Addr} {sl_take_line : Array (Option Value)} {oc_take_line kV_take_line dc_take_line pm_take_line cd_take_line ct_take_line : Value} {aa_take_line : Addr}
    {od_begin_else an_begin_else : Option Addr} {sl_begin_else : Array (Option Value)} {oc_begin_else kV_begin_else dc_begin_else pm_begin_else cd_begin_else ct_begin_else : Value} {aa_begin_else : Addr}
    {od_parse_body an_parse_body : Option Addr} {sl_parse_body : Array (Option Value)} {oc_parse_body kV_parse_body dc_parse_body pm_parse_body cd_parse_body ct_parse_body : Value} {aa_parse_body : Addr}
    {od_inner_lines an_inner_lines : Option Addr} {sl_inner_lines : Array (Option Value)} {oc_inner_lines kV_inner_lines dc_inner_lines pm_inner_lines cd_inner_lines ct_inner_lines : Value} {aa_inner_lines : Addr}
    {od_statement_lines an_statement_lines : Option Addr} {sl_statement_lines : Array (Option Value)} {oc_statement_lines kV_statement_lines dc_statement_lines pm_statement_lines cd_statement_lines ct_statement_lines : Value} {aa_statement_lines : Addr}
    {od_body_text an_body_text : Option Addr} {sl_body_text : Array (Option Value)} {oc_body_text kV_body_text dc_body_text pm_body_text cd_body_text ct_body_text : Value} {aa_body_text : Addr}
    {od_law_cell an_law_cell : Option Addr} {sl_law_cell : Array (Option Value)} {oc_law_cell kV_law_cell dc_law_cell pm_law_cell cd_law_cell ct_law_cell : Value} {aa_law_cell : Addr}
    {od_law_draws an_law_draws : Option Addr} {sl_law_draws : Array (Option Value)} {oc_law_draws kV_law_draws dc_law_draws pm_law_draws cd_law_draws ct_law_draws : Value} {aa_law_draws : Addr}
    {od_law_stream an_law_stream : Option Addr} {sl_law_stream : Array (Option Value)} {oc_law_stream kV_law_stream dc_law_stream pm_law_stream cd_law_stream ct_law_stream : Value} {aa_law_stream : Addr}
    {od_law_next an_law_next : Option Addr} {sl_law_next : Array (Option Value)} {oc_law_next kV_law_next dc_law_next pm_law_next cd_law_next ct_law_next : Value} {aa_law_next : Addr}
    {od_law_variable an_law_variable : Option Addr} {sl_law_variable : Array (Option Value)} {oc_law_variable kV_law_variable dc_law_variable pm_law_variable cd_law_variable ct_law_variable : Value} {aa_law_variable : Addr}
    {od_law_number an_law_number : Option Addr} {sl_law_number : Array (Option Value)} {oc_law_number kV_law_number dc_law_number pm_law_number cd_law_number ct_law_number : Value} {aa_law_number : Addr}
    {od_law_expression an_law_expression : Option Addr} {sl_law_expression : Array (Option Value)} {oc_law_expression kV_law_expression dc_law_expression pm_law_expression cd_law_expression ct_law_expression : Value} {aa_law_expression : Addr}
    {od_law_level an_law_level : Option Addr} {sl_law_level : Array (Option Value)} {oc_law_level kV_law_level dc_law_level pm_law_level cd_law_level ct_law_level : Value} {aa_law_level : Addr}
    {od_law_expression_text an_law_expression_text : Option Addr} {sl_law_expression_text : Array (Option Value)} {oc_law_expression_text kV_law_expression_text dc_law_expression_text pm_law_expression_text cd_law_expression_text ct_law_expression_text : Value} {aa_law_expression_text : Addr}
    {od_law_deed an_law_deed : Option Addr} {sl_law_deed : Array (Option Value)} {oc_law_deed kV_law_deed dc_law_deed pm_law_deed cd_law_deed ct_law_deed : Value} {aa_law_deed : Addr}
    {od_law_deed_text an_law_deed_text : Option Addr} {sl_law_deed_text : Array (Option Value)} {oc_law_deed_text kV_law_deed_text dc_law_deed_text pm_law_deed_text cd_law_deed_text ct_law_deed_text : Value} {aa_law_deed_text : Addr}
    {od_law_loose an_law_loose : Option Addr} {sl_law_loose : Array (Option Value)} {oc_law_loose kV_law_loose dc_law_loose pm_law_loose cd_law_loose ct_law_loose : Value} {aa_law_loose : Addr}
    {od_law_spread an_law_spread : Option Addr} {sl_law_spread : Array (Option Value)} {oc_law_spread kV_law_spread dc_law_spread pm_law_spread cd_law_spread ct_law_spread : Value} {aa_law_spread : Addr}
    {od_law_is_integer an_law_is_integer : Option Addr} {sl_law_is_integer : Array (Option Value)} {oc_law_is_integer kV_law_is_integer dc_law_is_integer pm_law_is_integer cd_law_is_integer ct_law_is_integer : Value} {aa_law_is_integer : Addr}
    {od_law_same an_law_same : Option Addr} {sl_law_same : Array (Option Value)} {oc_law_same kV_law_same dc_law_same pm_law_same cd_law_same ct_law_same : Value} {aa_law_same : Addr}
    {od_law_body an_law_body : Option Addr} {sl_law_body : Array (Option Value)} {oc_law_body kV_law_body dc_law_body pm_law_body cd_law_body ct_law_body : Value} {aa_law_body : Addr}
    {od_law_body_lines an_law_body_lines : Option Addr} {sl_law_body_lines : Array (Option Value)} {oc_law_body_lines kV_law_body_lines dc_law_body_lines pm_law_body_lines cd_law_body_lines ct_law_body_lines : Value} {aa_law_body_lines : Addr}
    {od_law_drawn_body an_law_drawn_body : Option Addr} {sl_law_drawn_body : Array (Option Value)} {oc_law_drawn_body kV_law_drawn_body dc_law_drawn_body pm_law_drawn_body cd_law_drawn_body ct_law_drawn_body : Value} {aa_law_drawn_body : Addr}
    {od_law an_law : Option Addr} {sl_law : Array (Option Value)} {oc_law kV_law dc_law pm_law cd_law ct_law : Value} {aa_law : Addr}
    {cc_SyntaxFault : Addr}
    {cc_BadLine : Addr}
    {cc_Reader : Addr}
    {cc_Open : Addr}
    {tt_LETTERS : Tok}
    {tt_DIGITS : Tok}
    {tt_SYMBOLS : Tok}
    {pp_KEYWORDS : Addr} {dd_KEYWORDS : Option Addr} {nn_KEYWORDS : Nat} {ll_KEYWORDS : Array (Option Value)} {u0_KEYWORDS u1_KEYWORDS u2_KEYWORDS u3_KEYWORDS u4_KEYWORDS u5_KEYWORDS u6_KEYWORDS u7_KEYWORDS u8_KEYWORDS u9_KEYWORDS : Tok}
    {tt_MOST_LETTERS : Tok}
    {tt_MOST_NUMBER : Tok}
    {tt_MOST_HEIGHT : Tok}
    {tt_MOST_OPEN : Tok}
    {pp_LEVELS : Addr} {nn_LEVELS : Nat} {u0_LEVELS v0_LEVELS u1_LEVELS v1_LEVELS u2_LEVELS v2_LEVELS u3_LEVELS v3_LEVELS u4_LEVELS v4_LEVELS : Tok}
    {tt_MOST_DEPTH : Tok}
    (c_SyntaxFault : PySem.W.nsIn K mainGlobals "SyntaxFault" = some (some (.ref cc_SyntaxFault)))
    (c_BadLine : PySem.W.nsIn K mainGlobals "BadLine" = some (some (.ref cc_BadLine)))
    (c_Reader : PySem.W.nsIn K mainGlobals "Reader" = some (some (.ref cc_Reader)))
    (c_Open : PySem.W.nsIn K mainGlobals "Open" = some (some (.ref cc_Open)))
    (a_run_end : PySem.W.nsIn K mainGlobals "run_end" = some (some (.ref aa_run_end)))
    (l_run_end : K.lookup aa_run_end = some ⟨oc_run_end, od_run_end, .func (PySem.W.fnOf "run_end" "run_end" (defArgs s_run_end) (defBody s_run_end) (defScope s_run_end) .none kV_run_end dc_run_end pm_run_end an_run_end cd_run_end ct_run_end), sl_run_end⟩)
    (q_run_end : PySem.W.codeIn K cd_run_end "run_end" = true)
    (k_run_end : PySem.W.keepIn K (.ref aa_run_end) = true)
    (a_number_of : PySem.W.nsIn K mainGlobals "number_of" = some (some (.ref aa_number_of)))
    (l_number_of : K.lookup aa_number_of = some ⟨oc_number_of, od_number_of, .func (PySem.W.fnOf "number_of" "number_of" (defArgs s_number_of) (defBody s_number_of) (defScope s_number_of) .none kV_number_of dc_number_of pm_number_of an_number_of cd_number_of ct_number_of), sl_number_of⟩)
    (q_number_of : PySem.W.codeIn K cd_number_of "number_of" = true)
    (k_number_of : PySem.W.keepIn K (.ref aa_number_of) = true)
    (a_word_end : PySem.W.nsIn K mainGlobals "word_end" = some (some (.ref aa_word_end)))
    (l_word_end : K.lookup aa_word_end = some ⟨oc_word_end, od_word_end, .func (PySem.W.fnOf "word_end" "word_end" (defArgs s_word_end) (defBody s_word_end) (defScope s_word_end) .none kV_word_end dc_word_end pm_word_end an_word_end cd_word_end ct_word_end), sl_word_end⟩)
    (q_word_end : PySem.W.codeIn K cd_word_end "word_end" = true)
    (k_word_end : PySem.W.keepIn K (.ref aa_word_end) = true)
    (a_signs_of : PySem.W.nsIn K mainGlobals "signs_of" = some (some (.ref aa_signs_of)))
    (l_signs_of : K.lookup aa_signs_of = some ⟨oc_signs_of, od_signs_of, .func (PySem.W.fnOf "signs_of" "signs_of" (defArgs s_signs_of) (defBody s_signs_of) (defScope s_signs_of) .none kV_signs_of dc_signs_of pm_signs_of an_signs_of cd_signs_of ct_signs_of), sl_signs_of⟩)
    (q_signs_of : PySem.W.codeIn K cd_signs_of "signs_of" = true)
    (k_signs_of : PySem.W.keepIn K (.ref aa_signs_of) = true)
    (a_is_name : PySem.W.nsIn K mainGlobals "is_name" = some (some (.ref aa_is_name)))
    (l_is_name : K.lookup aa_is_name = some ⟨oc_is_name, od_is_name, .func (PySem.W.fnOf "is_name" "is_name" (defArgs s_is_name) (defBody s_is_name) (defScope s_is_name) .none kV_is_name dc_is_name pm_is_name an_is_name cd_is_name ct_is_name), sl_is_name⟩)
    (q_is_name : PySem.W.codeIn K cd_is_name "is_name" = true)
    (k_is_name : PySem.W.keepIn K (.ref aa_is_name) = true)
    (a_is_label : PySem.W.nsIn K mainGlobals "is_label" = some (some (.ref aa_is_label)))
    (l_is_label : K.lookup aa_is_label = some ⟨oc_is_label, od_is_label, .func (PySem.W.fnOf "is_label" "is_label" (defArgs s_is_label) (defBody s_is_label) (defScope s_is_label) .none kV_is_label dc_is_label pm_is_label an_is_label cd_is_label ct_is_label), sl_is_label⟩)
    (q_is_label : PySem.W.codeIn K cd_is_label "is_label" = true)
    (k_is_label : PySem.W.keepIn K (.ref aa_is_label) = true)
    (a_Reader__init : PySem.W.findIn K (.ref cc_Reader) "__init__" = some (some (.ref aa_Reader__init)))
    (i_Reader__init : PySem.W.isFn K (.ref aa_Reader__init) = true)
    (l_Reader__init : K.lookup aa_Reader__init = some ⟨oc_Reader__init, od_Reader__init, .func (PySem.W.fnOf "__init__" "Reader.__init__" (defArgs s_Reader__init) (defBody s_Reader__init) (defScope s_Reader__init) .none kV_Reader__init dc_Reader__init pm_Reader__init an_Reader__init cd_Reader__init ct_Reader__init), sl_Reader__init⟩)
    (q_Reader__init : PySem.W.codeIn K cd_Reader__init "Reader.__init__" = true)
    (k_Reader__init : PySem.W.keepIn K (.ref aa_Reader__init) = true)
    (a_Reader_peek : PySem.W.findIn K (.ref cc_Reader) "peek" = some (some (.ref aa_Reader_peek)))
    (i_Reader_peek : PySem.W.isFn K (.ref aa_Reader_peek) = true)
    (l_Reader_peek : K.lookup aa_Reader_peek = some ⟨oc_Reader_peek, od_Reader_peek, .func (PySem.W.fnOf "peek" "Reader.peek" (defArgs s_Reader_peek) (defBody s_Reader_peek) (defScope s_Reader_peek) .none kV_Reader_peek dc_Reader_peek pm_Reader_peek an_Reader_peek cd_Reader_peek ct_Reader_peek), sl_Reader_peek⟩)
    (q_Reader_peek : PySem.W.codeIn K cd_Reader_peek "Reader.peek" = true)
    (k_Reader_peek : PySem.W.keepIn K (.ref aa_Reader_peek) = true)
    (a_Reader_take : PySem.W.findIn K (.ref cc_Reader) "take" = some (some (.ref aa_Reader_take)))
    (i_Reader_take : PySem.W.isFn K (.ref aa_Reader_take) = true)
    (l_Reader_take : K.lookup aa_Reader_take = some ⟨oc_Reader_take, od_Reader_take, .func (PySem.W.fnOf "take" "Reader.take" (defArgs s_Reader_take) (defBody s_Reader_take) (defScope s_Reader_take) .none kV_Reader_take dc_Reader_take pm_Reader_take an_Reader_take cd_Reader_take ct_Reader_take), sl_Reader_take⟩)
    (q_Reader_take : PySem.W.codeIn K cd_Reader_take "Reader.take" = true)
    (k_Reader_take : PySem.W.keepIn K (.ref aa_Reader_take) = true)
    (a_Reader_skip : PySem.W.findIn K (.ref cc_Reader) "skip" = some (some (.ref aa_Reader_skip)))
    (i_Reader_skip : PySem.W.isFn K (.ref aa_Reader_skip) = true)
    (l_Reader_skip : K.lookup aa_Reader_skip = some ⟨oc_Reader_skip, od_Reader_skip, .func (PySem.W.fnOf "skip" "Reader.skip" (defArgs s_Reader_skip) (defBody s_Reader_skip) (defScope s_Reader_skip) .none kV_Reader_skip dc_Reader_skip pm_Reader_skip an_Reader_skip cd_Reader_skip ct_Reader_skip), sl_Reader_skip⟩)
    (q_Reader_skip : PySem.W.codeIn K cd_Reader_skip "Reader.skip" = true)
    (k_Reader_skip : PySem.W.keepIn K (.ref aa_Reader_skip) = true)
    (a_Reader_expect : PySem.W.findIn K (.ref cc_Reader) "expect" = some (some (.ref aa_Reader_expect)))
    (i_Reader_expect : PySem.W.isFn K (.ref aa_Reader_expect) = true)
    (l_Reader_expect : K.lookup aa_Reader_expect = some ⟨oc_Reader_expect, od_Reader_expect, .func (PySem.W.fnOf "expect" "Reader.expect" (defArgs s_Reader_expect) (defBody s_Reader_expect) (defScope s_Reader_expect) .none kV_Reader_expect dc_Reader_expect pm_Reader_expect an_Reader_expect cd_Reader_expect ct_Reader_expect), sl_Reader_expect⟩)
    (q_Reader_expect : PySem.W.codeIn K cd_Reader_expect "Reader.expect" = true)
    (k_Reader_expect : PySem.W.keepIn K (.ref aa_Reader_expect) = true)
    (a_Reader_take_name : PySem.W.findIn K (.ref cc_Reader) "take_name" = some (some (.ref aa_Reader_take_name)))
    (i_Reader_take_name : PySem.W.isFn K (.ref aa_Reader_take_name) = true)
    (l_Reader_take_name : K.lookup aa_Reader_take_name = some ⟨oc_Reader_take_name, od_Reader_take_name, .func (PySem.W.fnOf "take_name" "Reader.take_name" (defArgs s_Reader_take_name) (defBody s_Reader_take_name) (defScope s_Reader_take_name) .none kV_Reader_take_name dc_Reader_take_name pm_Reader_take_name an_Reader_take_name cd_Reader_take_name ct_Reader_take_name), sl_Reader_take_name⟩)
    (q_Reader_take_name : PySem.W.codeIn K cd_Reader_take_name "Reader.take_name" = true)
    (k_Reader_take_name : PySem.W.keepIn K (.ref aa_Reader_take_name) = true)
    (a_Reader_take_label : PySem.W.findIn K (.ref cc_Reader) "take_label" = some (some (.ref aa_Reader_take_label)))
    (i_Reader_take_label : PySem.W.isFn K (.ref aa_Reader_take_label) = true)
    (l_Reader_take_label : K.lookup aa_Reader_take_label = some ⟨oc_Reader_take_label, od_Reader_take_label, .func (PySem.W.fnOf "take_label" "Reader.take_label" (defArgs s_Reader_take_label) (defBody s_Reader_take_label) (defScope s_Reader_take_label) .none kV_Reader_take_label dc_Reader_take_label pm_Reader_take_label an_Reader_take_label cd_Reader_take_label ct_Reader_take_label), sl_Reader_take_label⟩)
    (q_Reader_take_label : PySem.W.codeIn K cd_Reader_take_label "Reader.take_label" = true)
    (k_Reader_take_label : PySem.W.keepIn K (.ref aa_Reader_take_label) = true)
    (a_Reader_finish : PySem.W.findIn K (.ref cc_Reader) "finish" = some (some (.ref aa_Reader_finish)))
    (i_Reader_finish : PySem.W.isFn K (.ref aa_Reader_finish) = true)
    (l_Reader_finish : K.lookup aa_Reader_finish = some ⟨oc_Reader_finish, od_Reader_finish, .func (PySem.W.fnOf "finish" "Reader.finish" (defArgs s_Reader_finish) (defBody s_Reader_finish) (defScope s_Reader_finish) .none kV_Reader_finish dc_Reader_finish pm_Reader_finish an_Reader_finish cd_Reader_finish ct_Reader_finish), sl_Reader_finish⟩)
    (q_Reader_finish : PySem.W.codeIn K cd_Reader_finish "Reader.finish" = true)
    (k_Reader_finish : PySem.W.keepIn K (.ref aa_Reader_finish) = true)
    (a_is_blank : PySem.W.nsIn K mainGlobals "is_blank" = some (some (.ref aa_is_blank)))
    (l_is_blank : K.lookup aa_is_blank = some ⟨oc_is_blank, od_is_blank, .func (PySem.W.fnOf "is_blank" "is_blank" (defArgs s_is_blank) (defBody s_is_blank) (defScope s_is_blank) .none kV_is_blank dc_is_blank pm_is_blank an_is_blank cd_is_blank ct_is_blank), sl_is_blank⟩)
    (q_is_blank : PySem.W.codeIn K cd_is_blank "is_blank" = true)
    (k_is_blank : PySem.W.keepIn K (.ref aa_is_blank) = true)
    (a_joined : PySem.W.nsIn K mainGlobals "joined" = some (some (.ref aa_joined)))
    (l_joined : K.lookup aa_joined = some ⟨oc_joined, od_joined, .func (PySem.W.fnOf "joined" "joined" (defArgs s_joined) (defBody s_joined) (defScope s_joined) .none kV_joined dc_joined pm_joined an_joined cd_joined ct_joined), sl_joined⟩)
    (q_joined : PySem.W.codeIn K cd_joined "joined" = true)
    (k_joined : PySem.W.keepIn K (.ref aa_joined) = true)
    (a_read_primary : PySem.W.nsIn K mainGlobals "read_primary" = some (some (.ref aa_read_primary)))
    (l_read_primary : K.lookup aa_read_primary = some ⟨oc_read_primary, od_read_primary, .func (PySem.W.fnOf "read_primary" "read_primary" (defArgs s_read_primary) (defBody s_read_primary) (defScope s_read_primary) .none kV_read_primary dc_read_primary pm_read_primary an_read_primary cd_read_primary ct_read_primary), sl_read_primary⟩)
    (q_read_primary : PySem.W.codeIn K cd_read_primary "read_primary" = true)
    (k_read_primary : PySem.W.keepIn K (.ref aa_read_primary) = true)
    (a_read_product : PySem.W.nsIn K mainGlobals "read_product" = some (some (.ref aa_read_product)))
    (l_read_product : K.lookup aa_read_product = some ⟨oc_read_product, od_read_product, .func (PySem.W.fnOf "read_product" "read_product" (defArgs s_read_product) (defBody s_read_product) (defScope s_read_product) .none kV_read_product dc_read_product pm_read_product an_read_product cd_read_product ct_read_product), sl_read_product⟩)
    (q_read_product : PySem.W.codeIn K cd_read_product "read_product" = true)
    (k_read_product : PySem.W.keepIn K (.ref aa_read_product) = true)
    (a_read_sum : PySem.W.nsIn K mainGlobals "read_sum" = some (some (.ref aa_read_sum)))
    (l_read_sum : K.lookup aa_read_sum = some ⟨oc_read_sum, od_read_sum, .func (PySem.W.fnOf "read_sum" "read_sum" (defArgs s_read_sum) (defBody s_read_sum) (defScope s_read_sum) .none kV_read_sum dc_read_sum pm_read_sum an_read_sum cd_read_sum ct_read_sum), sl_read_sum⟩)
    (q_read_sum : PySem.W.codeIn K cd_read_sum "read_sum" = true)
    (k_read_sum : PySem.W.keepIn K (.ref aa_read_sum) = true)
    (a_read_comparison : PySem.W.nsIn K mainGlobals "read_comparison" = some (some (.ref aa_read_comparison)))
    (l_read_comparison : K.lookup aa_read_comparison = some ⟨oc_read_comparison, od_read_comparison, .func (PySem.W.fnOf "read_comparison" "read_comparison" (defArgs s_read_comparison) (defBody s_read_comparison) (defScope s_read_comparison) .none kV_read_comparison dc_read_comparison pm_read_comparison an_read_comparison cd_read_comparison ct_read_comparison), sl_read_comparison⟩)
    (q_read_comparison : PySem.W.codeIn K cd_read_comparison "read_comparison" = true)
    (k_read_comparison : PySem.W.keepIn K (.ref aa_read_comparison) = true)
    (a_read_expression : PySem.W.nsIn K mainGlobals "read_expression" = some (some (.ref aa_read_expression)))
    (l_read_expression : K.lookup aa_read_expression = some ⟨oc_read_expression, od_read_expression, .func (PySem.W.fnOf "read_expression" "read_expression" (defArgs s_read_expression) (defBody s_read_expression) (defScope s_read_expression) .none kV_read_expression dc_read_expression pm_read_expression an_read_expression cd_read_expression ct_read_expression), sl_read_expression⟩)
    (q_read_expression : PySem.W.codeIn K cd_read_expression "read_expression" = true)
    (k_read_expression : PySem.W.keepIn K (.ref aa_read_expression) = true)
    (a_text_at : PySem.W.nsIn K mainGlobals "text_at" = some (some (.ref aa_text_at)))
    (l_text_at : K.lookup aa_text_at = some ⟨oc_text_at, od_text_at, .func (PySem.W.fnOf "text_at" "text_at" (defArgs s_text_at) (defBody s_text_at) (defScope s_text_at) .none kV_text_at dc_text_at pm_text_at an_text_at cd_text_at ct_text_at), sl_text_at⟩)
    (q_text_at : PySem.W.codeIn K cd_text_at "text_at" = true)
    (k_text_at : PySem.W.keepIn K (.ref aa_text_at) = true)
    (a_expression_text : PySem.W.nsIn K mainGlobals "expression_text" = some (some (.ref aa_expression_text)))
    (l_expression_text : K.lookup aa_expression_text = some ⟨oc_expression_text, od_expression_text, .func (PySem.W.fnOf "expression_text" "expression_text" (defArgs s_expression_text) (defBody s_expression_text) (defScope s_expression_text) .none kV_expression_text dc_expression_text pm_expression_text an_expression_text cd_expression_text ct_expression_text), sl_expression_text⟩)
    (q_expression_text : PySem.W.codeIn K cd_expression_text "expression_text" = true)
    (k_expression_text : PySem.W.keepIn K (.ref aa_expression_text) = true)
    (a_read_deed : PySem.W.nsIn K mainGlobals "read_deed" = some (some (.ref aa_read_deed)))
    (l_read_deed : K.lookup aa_read_deed = some ⟨oc_read_deed, od_read_deed, .func (PySem.W.fnOf "read_deed" "read_deed" (defArgs s_read_deed) (defBody s_read_deed) (defScope s_read_deed) .none kV_read_deed dc_read_deed pm_read_deed an_read_deed cd_read_deed ct_read_deed), sl_read_deed⟩)
    (q_read_deed : PySem.W.codeIn K cd_read_deed "read_deed" = true)
    (k_read_deed : PySem.W.keepIn K (.ref aa_read_deed) = true)
    (a_deed_text : PySem.W.nsIn K mainGlobals "deed_text" = some (some (.ref aa_deed_text)))
    (l_deed_text : K.lookup aa_deed_text = some ⟨oc_deed_text, od_deed_text, .func (PySem.W.fnOf "deed_text" "deed_text" (defArgs s_deed_text) (defBody s_deed_text) (defScope s_deed_text) .none kV_deed_text dc_deed_text pm_deed_text an_deed_text cd_deed_text ct_deed_text), sl_deed_text⟩)
    (q_deed_text : PySem.W.codeIn K cd_deed_text "deed_text" = true)
    (k_deed_text : PySem.W.keepIn K (.ref aa_deed_text) = true)
    (a_Open__init : PySem.W.findIn K (.ref cc_Open) "__init__" = some (some (.ref aa_Open__init)))
    (i_Open__init : PySem.W.isFn K (.ref aa_Open__init) = true)
    (l_Open__init : K.lookup aa_Open__init = some ⟨oc_Open__init, od_Open__init, .func (PySem.W.fnOf "__init__" "Open.__init__" (defArgs s_Open__init) (defBody s_Open__init) (defScope s_Open__init) .none kV_Open__init dc_Open__init pm_Open__init an_Open__init cd_Open__init ct_Open__init), sl_Open__init⟩)
    (q_Open__init : PySem.W.codeIn K cd_Open__init "Open.__init__" = true)
    (k_Open__init : PySem.W.keepIn K (.ref aa_Open__init) = true)
    (a_Open_closed : PySem.W.findIn K (.ref cc_Open) "closed" = some (some (.ref aa_Open_closed)))
    (i_Open_closed : PySem.W.isFn K (.ref aa_Open_closed) = true)
    (l_Open_closed : K.lookup aa_Open_closed = some ⟨oc_Open_closed, od_Open_closed, .func (PySem.W.fnOf "closed" "Open.closed" (defArgs s_Open_closed) (defBody s_Open_closed) (defScope s_Open_closed) .none kV_Open_closed dc_Open_closed pm_Open_closed an_Open_closed cd_Open_closed ct_Open_closed), sl_Open_closed⟩)
    (q_Open_closed : PySem.W.codeIn K cd_Open_closed "Open.closed" = true)
    (k_Open_closed : PySem.W.keepIn K (.ref aa_Open_closed) = true)
    (a_read_labelled : PySem.W.nsIn K mainGlobals "read_labelled" = some (some (.ref aa_read_labelled)))
    (l_read_labelled : K.lookup aa_read_labelled = some ⟨oc_read_labelled, od_read_labelled, .func (PySem.W.fnOf "read_labelled" "read_labelled" (defArgs s_read_labelled) (defBody s_read_labelled) (defScope s_read_labelled) .none kV_read_labelled dc_read_labelled pm_read_labelled an_read_labelled cd_read_labelled ct_read_labelled), sl_read_labelled⟩)
    (q_read_labelled : PySem.W.codeIn K cd_read_labelled "read_labelled" = true)
    (k_read_labelled : PySem.W.keepIn K (.ref aa_read_labelled) = true)
    (a_read_worded : PySem.W.nsIn K mainGlobals "read_worded" = some (some (.ref aa_read_worded)))
    (l_read_worded : K.lookup aa_read_worded = some ⟨oc_read_worded, od_read_worded, .func (PySem.W.fnOf "read_worded" "read_worded" (defArgs s_read_worded) (defBody s_read_worded) (defScope s_read_worded) .none kV_read_worded dc_read_worded pm_read_worded an_read_worded cd_read_worded ct_read_worded), sl_read_worded⟩)
    (q_read_worded : PySem.W.codeIn K cd_read_worded "read_worded" = true)
    (k_read_worded : PySem.W.keepIn K (.ref aa_read_worded) = true)
    (a_read_line : PySem.W.nsIn K mainGlobals "read_line" = some (some (.ref aa_read_line)))
    (l_read_line : K.lookup aa_read_line = some ⟨oc_read_line, od_read_line, .func (PySem.W.fnOf "read_line" "read_line" (defArgs s_read_line) (defBody s_read_line) (defScope s_read_line) .none kV_read_line dc_read_line pm_read_line an_read_line cd_read_line ct_read_line), sl_read_line⟩)
    (q_read_line : PySem.W.codeIn K cd_read_line "read_line" = true)
    (k_read_line : PySem.W.keepIn K (.ref aa_read_line) = true)
    (a_take_line : PySem.W.nsIn K mainGlobals "take_line" = some (some (.ref aa_take_line)))
    (l_take_line : K.lookup aa_take_line = some ⟨oc_take_line, od_take_line, .func (PySem.W.fnOf "take_line" "take_line" (defArgs s_take_line) (defBody s_take_line) (defScope s_take_line) .none kV_take_line dc_take_line pm_take_line an_take_line cd_take_line ct_take_line), sl_take_line⟩)
    (q_take_line : PySem.W.codeIn K cd_take_line "take_line" = true)
    (k_take_line : PySem.W.keepIn K (.ref aa_take_line) = true)
    (a_begin_else : PySem.W.nsIn K mainGlobals "begin_else" = some (some (.ref aa_begin_else)))
    (l_begin_else : K.lookup aa_begin_else = some ⟨oc_begin_else, od_begin_else, .func (PySem.W.fnOf "begin_else" "begin_else" (defArgs s_begin_else) (defBody s_begin_else) (defScope s_begin_else) .none kV_begin_else dc_begin_else pm_begin_else an_begin_else cd_begin_else ct_begin_else), sl_begin_else⟩)
    (q_begin_else : PySem.W.codeIn K cd_begin_else "begin_else" = true)
    (k_begin_else : PySem.W.keepIn K (.ref aa_begin_else) = true)
    (a_parse_body : PySem.W.nsIn K mainGlobals "parse_body" = some (some (.ref aa_parse_body)))
    (l_parse_body : K.lookup aa_parse_body = some ⟨oc_parse_body, od_parse_body, .func (PySem.W.fnOf "parse_body" "parse_body" (defArgs s_parse_body) (defBody s_parse_body) (defScope s_parse_body) .none kV_parse_body dc_parse_body pm_parse_body an_parse_body cd_parse_body ct_parse_body), sl_parse_body⟩)
    (q_parse_body : PySem.W.codeIn K cd_parse_body "parse_body" = true)
    (k_parse_body : PySem.W.keepIn K (.ref aa_parse_body) = true)
    (a_inner_lines : PySem.W.nsIn K mainGlobals "inner_lines" = some (some (.ref aa_inner_lines)))
    (l_inner_lines : K.lookup aa_inner_lines = some ⟨oc_inner_lines, od_inner_lines, .func (PySem.W.fnOf "inner_lines" "inner_lines" (defArgs s_inner_lines) (defBody s_inner_lines) (defScope s_inner_lines) .none kV_inner_lines dc_inner_lines pm_inner_lines an_inner_lines cd_inner_lines ct_inner_lines), sl_inner_lines⟩)
    (q_inner_lines : PySem.W.codeIn K cd_inner_lines "inner_lines" = true)
    (k_inner_lines : PySem.W.keepIn K (.ref aa_inner_lines) = true)
    (a_statement_lines : PySem.W.nsIn K mainGlobals "statement_lines" = some (some (.ref aa_statement_lines)))
    (l_statement_lines : K.lookup aa_statement_lines = some ⟨oc_statement_lines, od_statement_lines, .func (PySem.W.fnOf "statement_lines" "statement_lines" (defArgs s_statement_lines) (defBody s_statement_lines) (defScope s_statement_lines) .none kV_statement_lines dc_statement_lines pm_statement_lines an_statement_lines cd_statement_lines ct_statement_lines), sl_statement_lines⟩)
    (q_statement_lines : PySem.W.codeIn K cd_statement_lines "statement_lines" = true)
    (k_statement_lines : PySem.W.keepIn K (.ref aa_statement_lines) = true)
    (a_body_text : PySem.W.nsIn K mainGlobals "body_text" = some (some (.ref aa_body_text)))
    (l_body_text : K.lookup aa_body_text = some ⟨oc_body_text, od_body_text, .func (PySem.W.fnOf "body_text" "body_text" (defArgs s_body_text) (defBody s_body_text) (defScope s_body_text) .none kV_body_text dc_body_text pm_body_text an_body_text cd_body_text ct_body_text), sl_body_text⟩)
    (q_body_text : PySem.W.codeIn K cd_body_text "body_text" = true)
    (k_body_text : PySem.W.keepIn K (.ref aa_body_text) = true)
    (a_law_cell : PySem.W.nsIn K mainGlobals "_law_cell" = some (some (.ref aa_law_cell)))
    (l_law_cell : K.lookup aa_law_cell = some ⟨oc_law_cell, od_law_cell, .func (PySem.W.fnOf "_law_cell" "_law_cell" (defArgs s_law_cell) (defBody s_law_cell) (defScope s_law_cell) .none kV_law_cell dc_law_cell pm_law_cell an_law_cell cd_law_cell ct_law_cell), sl_law_cell⟩)
    (q_law_cell : PySem.W.codeIn K cd_law_cell "_law_cell" = true)
    (k_law_cell : PySem.W.keepIn K (.ref aa_law_cell) = true)
    (a_law_draws : PySem.W.nsIn K mainGlobals "_law_draws" = some (some (.ref aa_law_draws)))
    (l_law_draws : K.lookup aa_law_draws = some ⟨oc_law_draws, od_law_draws, .func (PySem.W.fnOf "_law_draws" "_law_draws" (defArgs s_law_draws) (defBody s_law_draws) (defScope s_law_draws) .none kV_law_draws dc_law_draws pm_law_draws an_law_draws cd_law_draws ct_law_draws), sl_law_draws⟩)
    (q_law_draws : PySem.W.codeIn K cd_law_draws "_law_draws" = true)
    (k_law_draws : PySem.W.keepIn K (.ref aa_law_draws) = true)
    (a_law_stream : PySem.W.nsIn K mainGlobals "_law_stream" = some (some (.ref aa_law_stream)))
    (l_law_stream : K.lookup aa_law_stream = some ⟨oc_law_stream, od_law_stream, .func (PySem.W.fnOf "_law_stream" "_law_stream" (defArgs s_law_stream) (defBody s_law_stream) (defScope s_law_stream) .none kV_law_stream dc_law_stream pm_law_stream an_law_stream cd_law_stream ct_law_stream), sl_law_stream⟩)
    (q_law_stream : PySem.W.codeIn K cd_law_stream "_law_stream" = true)
    (k_law_stream : PySem.W.keepIn K (.ref aa_law_stream) = true)
    (a_law_next : PySem.W.nsIn K mainGlobals "_law_next" = some (some (.ref aa_law_next)))
    (l_law_next : K.lookup aa_law_next = some ⟨oc_law_next, od_law_next, .func (PySem.W.fnOf "_law_next" "_law_next" (defArgs s_law_next) (defBody s_law_next) (defScope s_law_next) .none kV_law_next dc_law_next pm_law_next an_law_next cd_law_next ct_law_next), sl_law_next⟩)
    (q_law_next : PySem.W.codeIn K cd_law_next "_law_next" = true)
    (k_law_next : PySem.W.keepIn K (.ref aa_law_next) = true)
    (a_law_variable : PySem.W.nsIn K mainGlobals "_law_variable" = some (some (.ref aa_law_variable)))
    (l_law_variable : K.lookup aa_law_variable = some ⟨oc_law_variable, od_law_variable, .func (PySem.W.fnOf "_law_variable" "_law_variable" (defArgs s_law_variable) (defBody s_law_variable) (defScope s_law_variable) .none kV_law_variable dc_law_variable pm_law_variable an_law_variable cd_law_variable ct_law_variable), sl_law_variable⟩)
    (q_law_variable : PySem.W.codeIn K cd_law_variable "_law_variable" = true)
    (k_law_variable : PySem.W.keepIn K (.ref aa_law_variable) = true)
    (a_law_number : PySem.W.nsIn K mainGlobals "_law_number" = some (some (.ref aa_law_number)))
    (l_law_number : K.lookup aa_law_number = some ⟨oc_law_number, od_law_number, .func (PySem.W.fnOf "_law_number" "_law_number" (defArgs s_law_number) (defBody s_law_number) (defScope s_law_number) .none kV_law_number dc_law_number pm_law_number an_law_number cd_law_number ct_law_number), sl_law_number⟩)
    (q_law_number : PySem.W.codeIn K cd_law_number "_law_number" = true)
    (k_law_number : PySem.W.keepIn K (.ref aa_law_number) = true)
    (a_law_expression : PySem.W.nsIn K mainGlobals "_law_expression" = some (some (.ref aa_law_expression)))
    (l_law_expression : K.lookup aa_law_expression = some ⟨oc_law_expression, od_law_expression, .func (PySem.W.fnOf "_law_expression" "_law_expression" (defArgs s_law_expression) (defBody s_law_expression) (defScope s_law_expression) .none kV_law_expression dc_law_expression pm_law_expression an_law_expression cd_law_expression ct_law_expression), sl_law_expression⟩)
    (q_law_expression : PySem.W.codeIn K cd_law_expression "_law_expression" = true)
    (k_law_expression : PySem.W.keepIn K (.ref aa_law_expression) = true)
    (a_law_level : PySem.W.nsIn K mainGlobals "_law_level" = some (some (.ref aa_law_level)))
    (l_law_level : K.lookup aa_law_level = some ⟨oc_law_level, od_law_level, .func (PySem.W.fnOf "_law_level" "_law_level" (defArgs s_law_level) (defBody s_law_level) (defScope s_law_level) .none kV_law_level dc_law_level pm_law_level an_law_level cd_law_level ct_law_level), sl_law_level⟩)
    (q_law_level : PySem.W.codeIn K cd_law_level "_law_level" = true)
    (k_law_level : PySem.W.keepIn K (.ref aa_law_level) = true)
    (a_law_expression_text : PySem.W.nsIn K mainGlobals "_law_expression_text" = some (some (.ref aa_law_expression_text)))
    (l_law_expression_text : K.lookup aa_law_expression_text = some ⟨oc_law_expression_text, od_law_expression_text, .func (PySem.W.fnOf "_law_expression_text" "_law_expression_text" (defArgs s_law_expression_text) (defBody s_law_expression_text) (defScope s_law_expression_text) .none kV_law_expression_text dc_law_expression_text pm_law_expression_text an_law_expression_text cd_law_expression_text ct_law_expression_text), sl_law_expression_text⟩)
    (q_law_expression_text : PySem.W.codeIn K cd_law_expression_text "_law_expression_text" = true)
    (k_law_expression_text : PySem.W.keepIn K (.ref aa_law_expression_text) = true)
    (a_law_deed : PySem.W.nsIn K mainGlobals "_law_deed" = some (some (.ref aa_law_deed)))
    (l_law_deed : K.lookup aa_law_deed = some ⟨oc_law_deed, od_law_deed, .func (PySem.W.fnOf "_law_deed" "_law_deed" (defArgs s_law_deed) (defBody s_law_deed) (defScope s_law_deed) .none kV_law_deed dc_law_deed pm_law_deed an_law_deed cd_law_deed ct_law_deed), sl_law_deed⟩)
    (q_law_deed : PySem.W.codeIn K cd_law_deed "_law_deed" = true)
    (k_law_deed : PySem.W.keepIn K (.ref aa_law_deed) = true)
    (a_law_deed_text : PySem.W.nsIn K mainGlobals "_law_deed_text" = some (some (.ref aa_law_deed_text)))
    (l_law_deed_text : K.lookup aa_law_deed_text = some ⟨oc_law_deed_text, od_law_deed_text, .func (PySem.W.fnOf "_law_deed_text" "_law_deed_text" (defArgs s_law_deed_text) (defBody s_law_deed_text) (defScope s_law_deed_text) .none kV_law_deed_text dc_law_deed_text pm_law_deed_text an_law_deed_text cd_law_deed_text ct_law_deed_text), sl_law_deed_text⟩)
    (q_law_deed_text : PySem.W.codeIn K cd_law_deed_text "_law_deed_text" = true)
    (k_law_deed_text : PySem.W.keepIn K (.ref aa_law_deed_text) = true)
    (a_law_loose : PySem.W.nsIn K mainGlobals "_law_loose" = some (some (.ref aa_law_loose)))
    (l_law_loose : K.lookup aa_law_loose = some ⟨oc_law_loose, od_law_loose, .func (PySem.W.fnOf "_law_loose" "_law_loose" (defArgs s_law_loose) (defBody s_law_loose) (defScope s_law_loose) .none kV_law_loose dc_law_loose pm_law_loose an_law_loose cd_law_loose ct_law_loose), sl_law_loose⟩)
    (q_law_loose : PySem.W.codeIn K cd_law_loose "_law_loose" = true)
    (k_law_loose : PySem.W.keepIn K (.ref aa_law_loose) = true)
    (a_law_spread : PySem.W.nsIn K mainGlobals "_law_spread" = some (some (.ref aa_law_spread)))
    (l_law_spread : K.lookup aa_law_spread = some ⟨oc_law_spread, od_law_spread, .func (PySem.W.fnOf "_law_spread" "_law_spread" (defArgs s_law_spread) (defBody s_law_spread) (defScope s_law_spread) .none kV_law_spread dc_law_spread pm_law_spread an_law_spread cd_law_spread ct_law_spread), sl_law_spread⟩)
    (q_law_spread : PySem.W.codeIn K cd_law_spread "_law_spread" = true)
    (k_law_spread : PySem.W.keepIn K (.ref aa_law_spread) = true)
    (a_law_is_integer : PySem.W.nsIn K mainGlobals "_law_is_integer" = some (some (.ref aa_law_is_integer)))
    (l_law_is_integer : K.lookup aa_law_is_integer = some ⟨oc_law_is_integer, od_law_is_integer, .func (PySem.W.fnOf "_law_is_integer" "_law_is_integer" (defArgs s_law_is_integer) (defBody s_law_is_integer) (defScope s_law_is_integer) .none kV_law_is_integer dc_law_is_integer pm_law_is_integer an_law_is_integer cd_law_is_integer ct_law_is_integer), sl_law_is_integer⟩)
    (q_law_is_integer : PySem.W.codeIn K cd_law_is_integer "_law_is_integer" = true)
    (k_law_is_integer : PySem.W.keepIn K (.ref aa_law_is_integer) = true)
    (a_law_same : PySem.W.nsIn K mainGlobals "_law_same" = some (some (.ref aa_law_same)))
    (l_law_same : K.lookup aa_law_same = some ⟨oc_law_same, od_law_same, .func (PySem.W.fnOf "_law_same" "_law_same" (defArgs s_law_same) (defBody s_law_same) (defScope s_law_same) .none kV_law_same dc_law_same pm_law_same an_law_same cd_law_same ct_law_same), sl_law_same⟩)
    (q_law_same : PySem.W.codeIn K cd_law_same "_law_same" = true)
    (k_law_same : PySem.W.keepIn K (.ref aa_law_same) = true)
    (a_law_body : PySem.W.nsIn K mainGlobals "_law_body" = some (some (.ref aa_law_body)))
    (l_law_body : K.lookup aa_law_body = some ⟨oc_law_body, od_law_body, .func (PySem.W.fnOf "_law_body" "_law_body" (defArgs s_law_body) (defBody s_law_body) (defScope s_law_body) .none kV_law_body dc_law_body pm_law_body an_law_body cd_law_body ct_law_body), sl_law_body⟩)
    (q_law_body : PySem.W.codeIn K cd_law_body "_law_body" = true)
    (k_law_body : PySem.W.keepIn K (.ref aa_law_body) = true)
    (a_law_body_lines : PySem.W.nsIn K mainGlobals "_law_body_lines" = some (some (.ref aa_law_body_lines)))
    (l_law_body_lines : K.lookup aa_law_body_lines = some ⟨oc_law_body_lines, od_law_body_lines, .func (PySem.W.fnOf "_law_body_lines" "_law_body_lines" (defArgs s_law_body_lines) (defBody s_law_body_lines) (defScope s_law_body_lines) .none kV_law_body_lines dc_law_body_lines pm_law_body_lines an_law_body_lines cd_law_body_lines ct_law_body_lines), sl_law_body_lines⟩)
    (q_law_body_lines : PySem.W.codeIn K cd_law_body_lines "_law_body_lines" = true)
    (k_law_body_lines : PySem.W.keepIn K (.ref aa_law_body_lines) = true)
    (a_law_drawn_body : PySem.W.nsIn K mainGlobals "_law_drawn_body" = some (some (.ref aa_law_drawn_body)))
    (l_law_drawn_body : K.lookup aa_law_drawn_body = some ⟨oc_law_drawn_body, od_law_drawn_body, .func (PySem.W.fnOf "_law_drawn_body" "_law_drawn_body" (defArgs s_law_drawn_body) (defBody s_law_drawn_body) (defScope s_law_drawn_body) .none kV_law_drawn_body dc_law_drawn_body pm_law_drawn_body an_law_drawn_body cd_law_drawn_body ct_law_drawn_body), sl_law_drawn_body⟩)
    (q_law_drawn_body : PySem.W.codeIn K cd_law_drawn_body "_law_drawn_body" = true)
    (k_law_drawn_body : PySem.W.keepIn K (.ref aa_law_drawn_body) = true)
    (a_law : PySem.W.nsIn K mainGlobals "law" = some (some (.ref aa_law)))
    (l_law : K.lookup aa_law = some ⟨oc_law, od_law, .func (PySem.W.fnOf "law" "law" (defArgs s_law) (defBody s_law) (defScope s_law) .none kV_law dc_law pm_law an_law cd_law ct_law), sl_law⟩)
    (q_law : PySem.W.codeIn K cd_law "law" = true)
    (k_law : PySem.W.keepIn K (.ref aa_law) = true)
    (pg_Reader : PySem.W.plainGet K cc_Reader Str.empty = true)
    (hd_Reader : PySem.W.hasDictIn K cc_Reader = true)
    (po_Reader : PySem.W.plainOver K cc_Reader = true)
    (sa_Reader : PySem.W.findIn K (.ref cc_Reader) "__setattr__" = some (some (.builtin "object.__setattr__")))
    (mk_Reader : PySem.W.makesIn K cc_Reader = true)
    (kc_Reader : PySem.W.keepIn K (.ref cc_Reader) = true)
    (n_Reader_signs : PySem.W.findIn K (.ref cc_Reader) "signs" = some none)
    (n_Reader_place : PySem.W.findIn K (.ref cc_Reader) "place" = some none)
    (pg_Open : PySem.W.plainGet K cc_Open Str.empty = true)
    (hd_Open : PySem.W.hasDictIn K cc_Open = true)
    (po_Open : PySem.W.plainOver K cc_Open = true)
    (sa_Open : PySem.W.findIn K (.ref cc_Open) "__setattr__" = some (some (.builtin "object.__setattr__")))
    (mk_Open : PySem.W.makesIn K cc_Open = true)
    (kc_Open : PySem.W.keepIn K (.ref cc_Open) = true)
    (n_Open_head : PySem.W.findIn K (.ref cc_Open) "head" = some none)
    (n_Open_then_body : PySem.W.findIn K (.ref cc_Open) "then_body" = some none)
    (n_Open_body : PySem.W.findIn K (.ref cc_Open) "body" = some none)
    (kp_SyntaxFault : PySem.W.keepIn K (.ref cc_SyntaxFault) = true)
    (r1_SyntaxFault : PySem.W.subIn K (.ref cc_SyntaxFault) (.type "BaseException") = some true)
    (r2_SyntaxFault : PySem.W.typeIn K (.ref cc_SyntaxFault) = some (.type "type"))
    (ic_SyntaxFault : PySem.W.isClsIn K cc_SyntaxFault = true)
    (ss_SyntaxFault : PySem.W.subIn K (.ref cc_SyntaxFault) (.ref cc_SyntaxFault) = some true)
    (hd_SyntaxFault : PySem.W.hasDictIn K cc_SyntaxFault = true)
    (x_BadLine : PySem.W.excIn K cc_BadLine [.type "ValueError", .type "Exception", .type "BaseException", .type "object"] "ValueError.__new__" = true)
    (kp_BadLine : PySem.W.keepIn K (.ref cc_BadLine) = true)
    (r1_BadLine : PySem.W.subIn K (.ref cc_BadLine) (.type "BaseException") = some true)
    (r2_BadLine : PySem.W.typeIn K (.ref cc_BadLine) = some (.type "type"))
    (ic_BadLine : PySem.W.isClsIn K cc_BadLine = true)
    (ss_BadLine : PySem.W.subIn K (.ref cc_BadLine) (.ref cc_BadLine) = some true)
    (hd_BadLine : PySem.W.hasDictIn K cc_BadLine = true)
    (s_BadLine_BadLine : PySem.W.subIn K (.ref cc_BadLine) (.ref cc_BadLine) = some true)
    (s_SyntaxFault_BadLine : PySem.W.subIn K (.ref cc_SyntaxFault) (.ref cc_BadLine) = some false)
    (g_LETTERS : PySem.W.nsIn K mainGlobals "LETTERS" = some (some (.str (Str.ofString "abcdefghijklmnopqrstuvwxyz") tt_LETTERS)))
    (g_DIGITS : PySem.W.nsIn K mainGlobals "DIGITS" = some (some (.str (Str.ofString "0123456789") tt_DIGITS)))
    (g_SYMBOLS : PySem.W.nsIn K mainGlobals "SYMBOLS" = some (some (.str (Str.ofString "(){}:=+-*<") tt_SYMBOLS)))
    (g_KEYWORDS : PySem.W.nsIn K mainGlobals "KEYWORDS" = some (some (.ref pp_KEYWORDS)))
    (o_KEYWORDS : K.lookup pp_KEYWORDS = some ⟨.type "tuple", dd_KEYWORDS, .seq #[.str (Str.ofString "entry") u0_KEYWORDS, .str (Str.ofString "goto") u1_KEYWORDS, .str (Str.ofString "else") u2_KEYWORDS, .str (Str.ofString "if") u3_KEYWORDS, .str (Str.ofString "print") u4_KEYWORDS, .str (Str.ofString "block") u5_KEYWORDS, .str (Str.ofString "loop") u6_KEYWORDS, .str (Str.ofString "break") u7_KEYWORDS, .str (Str.ofString "continue") u8_KEYWORDS, .str (Str.ofString "exit") u9_KEYWORDS] nn_KEYWORDS, ll_KEYWORDS⟩)
    (g_MOST_LETTERS : PySem.W.nsIn K mainGlobals "MOST_LETTERS" = some (some (.int 8 tt_MOST_LETTERS)))
    (g_MOST_NUMBER : PySem.W.nsIn K mainGlobals "MOST_NUMBER" = some (some (.int 1000000 tt_MOST_NUMBER)))
    (g_MOST_HEIGHT : PySem.W.nsIn K mainGlobals "MOST_HEIGHT" = some (some (.int 20 tt_MOST_HEIGHT)))
    (g_MOST_OPEN : PySem.W.nsIn K mainGlobals "MOST_OPEN" = some (some (.int 20 tt_MOST_OPEN)))
    (g_LEVELS : PySem.W.nsIn K mainGlobals "LEVELS" = some (some (.ref pp_LEVELS)))
    (o_LEVELS : K.lookup pp_LEVELS = some ⟨.type "dict", none, .dict (dent w.params [("=", u0_LEVELS, 0, v0_LEVELS), ("<", u1_LEVELS, 0, v1_LEVELS), ("+", u2_LEVELS, 1, v2_LEVELS), ("-", u3_LEVELS, 1, v3_LEVELS), ("*", u4_LEVELS, 2, v4_LEVELS)]).toArray nn_LEVELS, #[]⟩)
    (low_LEVELS : (pp_LEVELS == sysModules) = false)
    (g_MOST_DEPTH : PySem.W.nsIn K mainGlobals "MOST_DEPTH" = some (some (.int 60 tt_MOST_DEPTH)))
    (z_abs : PySem.W.nsIn K mainGlobals "abs" = some none)
    (z_bool : PySem.W.nsIn K mainGlobals "bool" = some none)
    (z_enumerate : PySem.W.nsIn K mainGlobals "enumerate" = some none)
    (z_int : PySem.W.nsIn K mainGlobals "int" = some none)
    (z_isinstance : PySem.W.nsIn K mainGlobals "isinstance" = some none)
    (z_len : PySem.W.nsIn K mainGlobals "len" = some none)
    (z_list : PySem.W.nsIn K mainGlobals "list" = some none)
    (z_max : PySem.W.nsIn K mainGlobals "max" = some none)
    (z_range : PySem.W.nsIn K mainGlobals "range" = some none)
    (z_str : PySem.W.nsIn K mainGlobals "str" = some none)
    (z_tuple : PySem.W.nsIn K mainGlobals "tuple" = some none) :
    ∃ fd : FuncData, (∀ (s : Shared) (v : Value), BindsTo s fd ⟨[v], []⟩ [("_law_script", v)]) ∧ ∀ base : Heap, K.In base → base.Ns mainGlobals mg → FnD PySem.Challenge.pw_restruct_k20_bodies_read w K mg base lawLevel fa fd ["_law_script"] sp_law := by
  have e : fa = aa_law := by have e := hfa.symm.trans (PySem.W.mg_of X G a_law); cases e; rfl
  rw [e]
  have F_run_end := fun_mk (st := s_run_end) l_run_end q_run_end k_run_end
  have F_number_of := fun_mk (st := s_number_of) l_number_of q_number_of k_number_of
  have F_word_end := fun_mk (st := s_word_end) l_word_end q_word_end k_word_end
  have F_signs_of := fun_mk (st := s_signs_of) l_signs_of q_signs_of k_signs_of
  have F_is_name := fun_mk (st := s_is_name) l_is_name q_is_name k_is_name
  have F_is_label := fun_mk (st := s_is_label) l_is_label q_is_label k_is_label
  have F_Reader__init := fun_mk (st := s_Reader__init) l_Reader__init q_Reader__init k_Reader__init
  have F_Reader_peek := fun_mk (st := s_Reader_peek) l_Reader_peek q_Reader_peek k_Reader_peek
  have F_Reader_take := fun_mk (st := s_Reader_take) l_Reader_take q_Reader_take k_Reader_take
  have F_Reader_skip := fun_mk (st := s_Reader_skip) l_Reader_skip q_Reader_skip k_Reader_skip
  have F_Reader_expect := fun_mk (st := s_Reader_expect) l_Reader_expect q_Reader_expect k_Reader_expect
  have F_Reader_take_name := fun_mk (st := s_Reader_take_name) l_Reader_take_name q_Reader_take_name k_Reader_take_name
  have F_Reader_take_label := fun_mk (st := s_Reader_take_label) l_Reader_take_label q_Reader_take_label k_Reader_take_label
  have F_Reader_finish := fun_mk (st := s_Reader_finish) l_Reader_finish q_Reader_finish k_Reader_finish
  have F_is_blank := fun_mk (st := s_is_blank) l_is_blank q_is_blank k_is_blank
  have F_joined := fun_mk (st := s_joined) l_joined q_joined k_joined
  have F_read_primary := fun_mk (st := s_read_primary) l_read_primary q_read_primary k_read_primary
  have F_read_product := fun_mk (st := s_read_product) l_read_product q_read_product k_read_product
  have F_read_sum := fun_mk (st := s_read_sum) l_read_sum q_read_sum k_read_sum
  have F_read_comparison := fun_mk (st := s_read_comparison) l_read_comparison q_read_comparison k_read_comparison
  have F_read_expression := fun_mk (st := s_read_expression) l_read_expression q_read_expression k_read_expression
  have F_text_at := fun_mk (st := s_text_at) l_text_at q_text_at k_text_at
  have F_expression_text := fun_mk (st := s_expression_text) l_expression_text q_expression_text k_expression_text
  have F_read_deed := fun_mk (st := s_read_deed) l_read_deed q_read_deed k_read_deed
  have F_deed_text := fun_mk (st := s_deed_text) l_deed_text q_deed_text k_deed_text
  have F_Open__init := fun_mk (st := s_Open__init) l_Open__init q_Open__init k_Open__init
  have F_Open_closed := fun_mk (st := s_Open_closed) l_Open_closed q_Open_closed k_Open_closed
  have F_read_labelled := fun_mk (st := s_read_labelled) l_read_labelled q_read_labelled k_read_labelled
  have F_read_worded := fun_mk (st := s_read_worded) l_read_worded q_read_worded k_read_worded
  have F_read_line := fun_mk (st := s_read_line) l_read_line q_read_line k_read_line
  have F_take_line := fun_mk (st := s_take_line) l_take_line q_take_line k_take_line
  have F_begin_else := fun_mk (st := s_begin_else) l_begin_else q_begin_else k_begin_else
  have F_parse_body := fun_mk (st := s_parse_body) l_parse_body q_parse_body k_parse_body
  have F_inner_lines := fun_mk (st := s_inner_lines) l_inner_lines q_inner_lines k_inner_lines
  have F_statement_lines := fun_mk (st := s_statement_lines) l_statement_lines q_statement_lines k_statement_lines
  have F_body_text := fun_mk (st := s_body_text) l_body_text q_body_text k_body_text
  have F_law_cell := fun_mk (st := s_law_cell) l_law_cell q_law_cell k_law_cell
  have F_law_draws := fun_mk (st := s_law_draws) l_law_draws q_law_draws k_law_draws
  have F_law_stream := fun_mk (st := s_law_stream) l_law_stream q_law_stream k_law_stream
  have F_law_next := fun_mk (st := s_law_next) l_law_next q_law_next k_law_next
  have F_law_variable := fun_mk (st := s_law_variable) l_law_variable q_law_variable k_law_variable
  have F_law_number := fun_mk (st := s_law_number) l_law_number q_law_number k_law_number
  have F_law_expression := fun_mk (st := s_law_expression) l_law_expression q_law_expression k_law_expression
  have F_law_level := fun_mk (st := s_law_level) l_law_level q_law_level k_law_level
  have F_law_expression_text := fun_mk (st := s_law_expression_text) l_law_expression_text q_law_expression_text k_law_expression_text
  have F_law_deed := fun_mk (st := s_law_deed) l_law_deed q_law_deed k_law_deed
  have F_law_deed_text := fun_mk (st := s_law_deed_text) l_law_deed_text q_law_deed_text k_law_deed_text
  have F_law_loose := fun_mk (st := s_law_loose) l_law_loose q_law_loose k_law_loose
  have F_law_spread := fun_mk (st := s_law_spread) l_law_spread q_law_spread k_law_spread
  have F_law_is_integer := fun_mk (st := s_law_is_integer) l_law_is_integer q_law_is_integer k_law_is_integer
  have F_law_same := fun_mk (st := s_law_same) l_law_same q_law_same k_law_same
  have F_law_body := fun_mk (st := s_law_body) l_law_body q_law_body k_law_body
  have F_law_body_lines := fun_mk (st := s_law_body_lines) l_law_body_lines q_law_body_lines k_law_body_lines
  have F_law_drawn_body := fun_mk (st := s_law_drawn_body) l_law_drawn_body q_law_drawn_body k_law_drawn_body
  have F_law := fun_mk (st := s_law) l_law q_law k_law
  have T : Txt w K mg { a_run_end := aa_run_end, d_run_end := PySem.W.fnOf "run_end" "run_end" (defArgs s_run_end) (defBody s_run_end) (defScope s_run_end) .none kV_run_end dc_run_end pm_run_end an_run_end cd_run_end ct_run_end, a_number_of := aa_number_of, d_number_of := PySem.W.fnOf "number_of" "number_of" (defArgs s_number_of) (defBody s_number_of) (defScope s_number_of) .none kV_number_of dc_number_of pm_number_of an_number_of cd_number_of ct_number_of, a_word_end := aa_word_end, d_word_end := PySem.W.fnOf "word_end" "word_end" (defArgs s_word_end) (defBody s_word_end) (defScope s_word_end) .none kV_word_end dc_word_end pm_word_end an_word_end cd_word_end ct_word_end, a_signs_of := aa_signs_of, d_signs_of := PySem.W.fnOf "signs_of" "signs_of" (defArgs s_signs_of) (defBody s_signs_of) (defScope s_signs_of) .none kV_signs_of dc_signs_of pm_signs_of an_signs_of cd_signs_of ct_signs_of, a_is_name := aa_is_name, d_is_name := PySem.W.fnOf "is_name" "is_name" (defArgs s_is_name) (defBody s_is_name) (defScope s_is_name) .none kV_is_name dc_is_name pm_is_name an_is_name cd_is_name ct_is_name, a_is_label := aa_is_label, d_is_label := PySem.W.fnOf "is_label" "is_label" (defArgs s_is_label) (defBody s_is_label) (defScope s_is_label) .none kV_is_label dc_is_label pm_is_label an_is_label cd_is_label ct_is_label, a_Reader__init := aa_Reader__init, d_Reader__init := PySem.W.fnOf "__init__" "Reader.__init__" (defArgs s_Reader__init) (defBody s_Reader__init) (defScope s_Reader__init) .none kV_Reader__init dc_Reader__init pm_Reader__init an_Reader__init cd_Reader__init ct_Reader__init, a_Reader_peek := aa_Reader_peek, d_Reader_peek := PySem.W.fnOf "peek" "Reader.peek" (defArgs s_Reader_peek) (defBody s_Reader_peek) (defScope s_Reader_peek) .none kV_Reader_peek dc_Reader_peek pm_Reader_peek an_Reader_peek cd_Reader_peek ct_Reader_peek, a_Reader_take := aa_Reader_take, d_Reader_take := PySem.W.fnOf "take" "Reader.take" (defArgs s_Reader_take) (defBody s_Reader_take) (defScope s_Reader_take) .none kV_Reader_take dc_Reader_take pm_Reader_take an_Reader_take cd_Reader_take ct_Reader_take, a_Reader_skip := aa_Reader_skip, d_Reader_skip := PySem.W.fnOf "skip" "Reader.skip" (defArgs s_Reader_skip) (defBody s_Reader_skip) (defScope s_Reader_skip) .none kV_Reader_skip dc_Reader_skip pm_Reader_skip an_Reader_skip cd_Reader_skip ct_Reader_skip, a_Reader_expect := aa_Reader_expect, d_Reader_expect := PySem.W.fnOf "expect" "Reader.expect" (defArgs s_Reader_expect) (defBody s_Reader_expect) (defScope s_Reader_expect) .none kV_Reader_expect dc_Reader_expect pm_Reader_expect an_Reader_expect cd_Reader_expect ct_Reader_expect, a_Reader_take_name := aa_Reader_take_name, d_Reader_take_name := PySem.W.fnOf "take_name" "Reader.take_name" (defArgs s_Reader_take_name) (defBody s_Reader_take_name) (defScope s_Reader_take_name) .none kV_Reader_take_name dc_Reader_take_name pm_Reader_take_name an_Reader_take_name cd_Reader_take_name ct_Reader_take_name, a_Reader_take_label := aa_Reader_take_label, d_Reader_take_label := PySem.W.fnOf "take_label" "Reader.take_label" (defArgs s_Reader_take_label) (defBody s_Reader_take_label) (defScope s_Reader_take_label) .none kV_Reader_take_label dc_Reader_take_label pm_Reader_take_label an_Reader_take_label cd_Reader_take_label ct_Reader_take_label, a_Reader_finish := aa_Reader_finish, d_Reader_finish := PySem.W.fnOf "finish" "Reader.finish" (defArgs s_Reader_finish) (defBody s_Reader_finish) (defScope s_Reader_finish) .none kV_Reader_finish dc_Reader_finish pm_Reader_finish an_Reader_finish cd_Reader_finish ct_Reader_finish, a_is_blank := aa_is_blank, d_is_blank := PySem.W.fnOf "is_blank" "is_blank" (defArgs s_is_blank) (defBody s_is_blank) (defScope s_is_blank) .none kV_is_blank dc_is_blank pm_is_blank an_is_blank cd_is_blank ct_is_blank, a_joined := aa_joined, d_joined := PySem.W.fnOf "joined" "joined" (defArgs s_joined) (defBody s_joined) (defScope s_joined) .none kV_joined dc_joined pm_joined an_joined cd_joined ct_joined, a_read_primary := aa_read_primary, d_read_primary := PySem.W.fnOf "read_primary" "read_primary" (defArgs s_read_primary) (defBody s_read_primary) (defScope s_read_primary) .none kV_read_primary dc_read_primary pm_read_primary an_read_primary cd_read_primary ct_read_primary, a_read_product := aa_read_product, d_read_product := PySem.W.fnOf "read_product" "read_product" (defArgs s_read_product) (defBody s_read_product) (defScope s_read_product) .none kV_read_product dc_read_product pm_read_product an_read_product cd_read_product ct_read_product, a_read_sum := aa_read_sum, d_read_sum := PySem.W.fnOf "read_sum" "read_sum" (defArgs s_read_sum) (defBody s_read_sum) (defScope s_read_sum) .none kV_read_sum dc_read_sum pm_read_sum an_read_sum cd_read_sum ct_read_sum, a_read_comparison := aa_read_comparison, d_read_comparison := PySem.W.fnOf "read_comparison" "read_comparison" (defArgs s_read_comparison) (defBody s_read_comparison) (defScope s_read_comparison) .none kV_read_comparison dc_read_comparison pm_read_comparison an_read_comparison cd_read_comparison ct_read_comparison, a_read_expression := aa_read_expression, d_read_expression := PySem.W.fnOf "read_expression" "read_expression" (defArgs s_read_expression) (defBody s_read_expression) (defScope s_read_expression) .none kV_read_expression dc_read_expression pm_read_expression an_read_expression cd_read_expression ct_read_expression, a_text_at := aa_text_at, d_text_at := PySem.W.fnOf "text_at" "text_at" (defArgs s_text_at) (defBody s_text_at) (defScope s_text_at) .none kV_text_at dc_text_at pm_text_at an_text_at cd_text_at ct_text_at, a_expression_text := aa_expression_text, d_expression_text := PySem.W.fnOf "expression_text" "expression_text" (defArgs s_expression_text) (defBody s_expression_text) (defScope s_expression_text) .none kV_expression_text dc_expression_text pm_expression_text an_expression_text cd_expression_text ct_expression_text, a_read_deed := aa_read_deed, d_read_deed := PySem.W.fnOf "read_deed" "read_deed" (defArgs s_read_deed) (defBody s_read_deed) (defScope s_read_deed) .none kV_read_deed dc_read_deed pm_read_deed an_read_deed cd_read_deed ct_read_deed, a_deed_text := aa_deed_text, d_deed_text := PySem.W.fnOf "deed_text" "deed_text" (defArgs s_deed_text) (defBody s_deed_text) (defScope s_deed_text) .none kV_deed_text dc_deed_text pm_deed_text an_deed_text cd_deed_text ct_deed_text, a_Open__init := aa_Open__init, d_Open__init := PySem.W.fnOf "__init__" "Open.__init__" (defArgs s_Open__init) (defBody s_Open__init) (defScope s_Open__init) .none kV_Open__init dc_Open__init pm_Open__init an_Open__init cd_Open__init ct_Open__init, a_Open_closed := aa_Open_closed, d_Open_closed := PySem.W.fnOf "closed" "Open.closed" (defArgs s_Open_closed) (defBody s_Open_closed) (defScope s_Open_closed) .none kV_Open_closed dc_Open_closed pm_Open_closed an_Open_closed cd_Open_closed ct_Open_closed, a_read_labelled := aa_read_labelled, d_read_labelled := PySem.W.fnOf "read_labelled" "read_labelled" (defArgs s_read_labelled) (defBody s_read_labelled) (defScope s_read_labelled) .none kV_read_labelled dc_read_labelled pm_read_labelled an_read_labelled cd_read_labelled ct_read_labelled, a_read_worded := aa_read_worded, d_read_worded := PySem.W.fnOf "read_worded" "read_worded" (defArgs s_read_worded) (defBody s_read_worded) (defScope s_read_worded) .none kV_read_worded dc_read_worded pm_read_worded an_read_worded cd_read_worded ct_read_worded, a_read_line := aa_read_line, d_read_line := PySem.W.fnOf "read_line" "read_line" (defArgs s_read_line) (defBody s_read_line) (defScope s_read_line) .none kV_read_line dc_read_line pm_read_line an_read_line cd_read_line ct_read_line, a_take_line := aa_take_line, d_take_line := PySem.W.fnOf "take_line" "take_line" (defArgs s_take_line) (defBody s_take_line) (defScope s_take_line) .none kV_take_line dc_take_line pm_take_line an_take_line cd_take_line ct_take_line, a_begin_else := aa_begin_else, d_begin_else := PySem.W.fnOf "begin_else" "begin_else" (defArgs s_begin_else) (defBody s_begin_else) (defScope s_begin_else) .none kV_begin_else dc_begin_else pm_begin_else an_begin_else cd_begin_else ct_begin_else, a_parse_body := aa_parse_body, d_parse_body := PySem.W.fnOf "parse_body" "parse_body" (defArgs s_parse_body) (defBody s_parse_body) (defScope s_parse_body) .none kV_parse_body dc_parse_body pm_parse_body an_parse_body cd_parse_body ct_parse_body, a_inner_lines := aa_inner_lines, d_inner_lines := PySem.W.fnOf "inner_lines" "inner_lines" (defArgs s_inner_lines) (defBody s_inner_lines) (defScope s_inner_lines) .none kV_inner_lines dc_inner_lines pm_inner_lines an_inner_lines cd_inner_lines ct_inner_lines, a_statement_lines := aa_statement_lines, d_statement_lines := PySem.W.fnOf "statement_lines" "statement_lines" (defArgs s_statement_lines) (defBody s_statement_lines) (defScope s_statement_lines) .none kV_statement_lines dc_statement_lines pm_statement_lines an_statement_lines cd_statement_lines ct_statement_lines, a_body_text := aa_body_text, d_body_text := PySem.W.fnOf "body_text" "body_text" (defArgs s_body_text) (defBody s_body_text) (defScope s_body_text) .none kV_body_text dc_body_text pm_body_text an_body_text cd_body_text ct_body_text, a_law_cell := aa_law_cell, d_law_cell := PySem.W.fnOf "_law_cell" "_law_cell" (defArgs s_law_cell) (defBody s_law_cell) (defScope s_law_cell) .none kV_law_cell dc_law_cell pm_law_cell an_law_cell cd_law_cell ct_law_cell, a_law_draws := aa_law_draws, d_law_draws := PySem.W.fnOf "_law_draws" "_law_draws" (defArgs s_law_draws) (defBody s_law_draws) (defScope s_law_draws) .none kV_law_draws dc_law_draws pm_law_draws an_law_draws cd_law_draws ct_law_draws, a_law_stream := aa_law_stream, d_law_stream := PySem.W.fnOf "_law_stream" "_law_stream" (defArgs s_law_stream) (defBody s_law_stream) (defScope s_law_stream) .none kV_law_stream dc_law_stream pm_law_stream an_law_stream cd_law_stream ct_law_stream, a_law_next := aa_law_next, d_law_next := PySem.W.fnOf "_law_next" "_law_next" (defArgs s_law_next) (defBody s_law_next) (defScope s_law_next) .none kV_law_next dc_law_next pm_law_next an_law_next cd_law_next ct_law_next, a_law_variable := aa_law_variable, d_law_variable := PySem.W.fnOf "_law_variable" "_law_variable" (defArgs s_law_variable) (defBody s_law_variable) (defScope s_law_variable) .none kV_law_variable dc_law_variable pm_law_variable an_law_variable cd_law_variable ct_law_variable, a_law_number := aa_law_number, d_law_number := PySem.W.fnOf "_law_number" "_law_number" (defArgs s_law_number) (defBody s_law_number) (defScope s_law_number) .none kV_law_number dc_law_number pm_law_number an_law_number cd_law_number ct_law_number, a_law_expression := aa_law_expression, d_law_expression := PySem.W.fnOf "_law_expression" "_law_expression" (defArgs s_law_expression) (defBody s_law_expression) (defScope s_law_expression) .none kV_law_expression dc_law_expression pm_law_expression an_law_expression cd_law_expression ct_law_expression, a_law_level := aa_law_level, d_law_level := PySem.W.fnOf "_law_level" "_law_level" (defArgs s_law_level) (defBody s_law_level) (defScope s_law_level) .none kV_law_level dc_law_level pm_law_level an_law_level cd_law_level ct_law_level, a_law_expression_text := aa_law_expression_text, d_law_expression_text := PySem.W.fnOf "_law_expression_text" "_law_expression_text" (defArgs s_law_expression_text) (defBody s_law_expression_text) (defScope s_law_expression_text) .none kV_law_expression_text dc_law_expression_text pm_law_expression_text an_law_expression_text cd_law_expression_text ct_law_expression_text, a_law_deed := aa_law_deed, d_law_deed := PySem.W.fnOf "_law_deed" "_law_deed" (defArgs s_law_deed) (defBody s_law_deed) (defScope s_law_deed) .none kV_law_deed dc_law_deed pm_law_deed an_law_deed cd_law_deed ct_law_deed, a_law_deed_text := aa_law_deed_text, d_law_deed_text := PySem.W.fnOf "_law_deed_text" "_law_deed_text" (defArgs s_law_deed_text) (defBody s_law_deed_text) (defScope s_law_deed_text) .none kV_law_deed_text dc_law_deed_text pm_law_deed_text an_law_deed_text cd_law_deed_text ct_law_deed_text, a_law_loose := aa_law_loose, d_law_loose := PySem.W.fnOf "_law_loose" "_law_loose" (defArgs s_law_loose) (defBody s_law_loose) (defScope s_law_loose) .none kV_law_loose dc_law_loose pm_law_loose an_law_loose cd_law_loose ct_law_loose, a_law_spread := aa_law_spread, d_law_spread := PySem.W.fnOf "_law_spread" "_law_spread" (defArgs s_law_spread) (defBody s_law_spread) (defScope s_law_spread) .none kV_law_spread dc_law_spread pm_law_spread an_law_spread cd_law_spread ct_law_spread, a_law_is_integer := aa_law_is_integer, d_law_is_integer := PySem.W.fnOf "_law_is_integer" "_law_is_integer" (defArgs s_law_is_integer) (defBody s_law_is_integer) (defScope s_law_is_integer) .none kV_law_is_integer dc_law_is_integer pm_law_is_integer an_law_is_integer cd_law_is_integer ct_law_is_integer, a_law_same := aa_law_same, d_law_same := PySem.W.fnOf "_law_same" "_law_same" (defArgs s_law_same) (defBody s_law_same) (defScope s_law_same) .none kV_law_same dc_law_same pm_law_same an_law_same cd_law_same ct_law_same, a_law_body := aa_law_body, d_law_body := PySem.W.fnOf "_law_body" "_law_body" (defArgs s_law_body) (defBody s_law_body) (defScope s_law_body) .none kV_law_body dc_law_body pm_law_body an_law_body cd_law_body ct_law_body, a_law_body_lines := aa_law_body_lines, d_law_body_lines := PySem.W.fnOf "_law_body_lines" "_law_body_lines" (defArgs s_law_body_lines) (defBody s_law_body_lines) (defScope s_law_body_lines) .none kV_law_body_lines dc_law_body_lines pm_law_body_lines an_law_body_lines cd_law_body_lines ct_law_body_lines, a_law_drawn_body := aa_law_drawn_body, d_law_drawn_body := PySem.W.fnOf "_law_drawn_body" "_law_drawn_body" (defArgs s_law_drawn_body) (defBody s_law_drawn_body) (defScope s_law_drawn_body) .none kV_law_drawn_body dc_law_drawn_body pm_law_drawn_body an_law_drawn_body cd_law_drawn_body ct_law_drawn_body, a_law := aa_law, d_law := PySem.W.fnOf "law" "law" (defArgs s_law) (defBody s_law) (defScope s_law) .none kV_law dc_law pm_law an_law cd_law ct_law, c_SyntaxFault := cc_SyntaxFault, c_BadLine := cc_BadLine, c_Reader := cc_Reader, c_Open := cc_Open, t_LETTERS := tt_LETTERS, t_DIGITS := tt_DIGITS, t_SYMBOLS := tt_SYMBOLS, p_KEYWORDS := pp_KEYWORDS, t_MOST_LETTERS := tt_MOST_LETTERS, t_MOST_NUMBER := tt_MOST_NUMBER, t_MOST_HEIGHT := tt_MOST_HEIGHT, t_MOST_OPEN := tt_MOST_OPEN, p_LEVELS := pp_LEVELS, t_MOST_DEPTH := tt_MOST_DEPTH, exm := exmK K, isi := isiK K } := {
    h_exm := rfl
    h_isi := rfl
    v_BadLine_BadLine := exm_own r1_BadLine hd_BadLine r2_BadLine s_BadLine_BadLine
    v_SyntaxFault_BadLine := exm_own r1_BadLine hd_BadLine r2_BadLine s_SyntaxFault_BadLine
    f_run_end := F_run_end
    b_run_end := F_run_end.binds (ps := ["line", "start", "chars"]) fun _ _ _ _ _ _ us hl => match us, hl with | [_, _, _], _ => rfl
    m_run_end := PySem.W.mg_of X G a_run_end
    f_number_of := F_number_of
    b_number_of := F_number_of.binds (ps := ["digits", "least", "most"]) fun _ _ _ _ _ _ us hl => match us, hl with | [_, _, _], _ => rfl
    m_number_of := PySem.W.mg_of X G a_number_of
    f_word_end := F_word_end
    b_word_end := F_word_end.binds (ps := ["line", "start"]) fun _ _ _ _ _ _ us hl => match us, hl with | [_, _], _ => rfl
    m_word_end := PySem.W.mg_of X G a_word_end
    f_signs_of := F_signs_of
    b_signs_of := F_signs_of.binds (ps := ["line"]) fun _ _ _ _ _ _ us hl => match us, hl with | [_], _ => rfl
    m_signs_of := PySem.W.mg_of X G a_signs_of
    f_is_name := F_is_name
    b_is_name := F_is_name.binds (ps := ["word"]) fun _ _ _ _ _ _ us hl => match us, hl with | [_], _ => rfl
    m_is_name := PySem.W.mg_of X G a_is_name
    f_is_label := F_is_label
    b_is_label := F_is_label.binds (ps := ["word"]) fun _ _ _ _ _ _ us hl => match us, hl with | [_], _ => rfl
    m_is_label := PySem.W.mg_of X G a_is_label
    f_Reader__init := F_Reader__init
    b_Reader__init := F_Reader__init.binds (ps := ["self", "signs"]) fun _ _ _ _ _ _ us hl => match us, hl with | [_, _], _ => rfl
    me_Reader__init := ⟨a_Reader__init, i_Reader__init, k_Reader__init⟩
    f_Reader_peek := F_Reader_peek
    b_Reader_peek := F_Reader_peek.binds (ps := ["self"]) fun _ _ _ _ _ _ us hl => match us, hl with | [_], _ => rfl
    me_Reader_peek := ⟨a_Reader_peek, i_Reader_peek, k_Reader_peek⟩
    f_Reader_take := F_Reader_take
    b_Reader_take := F_Reader_take.binds (ps := ["self"]) fun _ _ _ _ _ _ us hl => match us, hl with | [_], _ => rfl
    me_Reader_take := ⟨a_Reader_take, i_Reader_take, k_Reader_take⟩
    f_Reader_skip := F_Reader_skip
    b_Reader_skip := F_Reader_skip.binds (ps := ["self", "kind", "value"]) fun _ _ _ _ _ _ us hl => match us, hl with | [_, _, _], _ => rfl
    me_Reader_skip := ⟨a_Reader_skip, i_Reader_skip, k_Reader_skip⟩
    f_Reader_expect := F_Reader_expect
    b_Reader_expect := F_Reader_expect.binds (ps := ["self", "kind", "value"]) fun _ _ _ _ _ _ us hl => match us, hl with | [_, _, _], _ => rfl
    me_Reader_expect := ⟨a_Reader_expect, i_Reader_expect, k_Reader_expect⟩
    f_Reader_take_name := F_Reader_take_name
    b_Reader_take_name := F_Reader_take_name.binds (ps := ["self"]) fun _ _ _ _ _ _ us hl => match us, hl with | [_], _ => rfl
    me_Reader_take_name := ⟨a_Reader_take_name, i_Reader_take_name, k_Reader_take_name⟩
    f_Reader_take_label := F_Reader_take_label
    b_Reader_take_label := F_Reader_take_label.binds (ps := ["self"]) fun _ _ _ _ _ _ us hl => match us, hl with | [_], _ => rfl
    me_Reader_take_label := ⟨a_Reader_take_label, i_Reader_take_label, k_Reader_take_label⟩
    f_Reader_finish := F_Reader_finish
    b_Reader_finish := F_Reader_finish.binds (ps := ["self"]) fun _ _ _ _ _ _ us hl => match us, hl with | [_], _ => rfl
    me_Reader_finish := ⟨a_Reader_finish, i_Reader_finish, k_Reader_finish⟩
    f_is_blank := F_is_blank
    b_is_blank := F_is_blank.binds (ps := ["line"]) fun _ _ _ _ _ _ us hl => match us, hl with | [_], _ => rfl
    m_is_blank := PySem.W.mg_of X G a_is_blank
    f_joined := F_joined
    b_joined := F_joined.binds (ps := ["sign", "left", "right", "heights"]) fun _ _ _ _ _ _ us hl => match us, hl with | [_, _, _, _], _ => rfl
    m_joined := PySem.W.mg_of X G a_joined
    f_read_primary := F_read_primary
    b_read_primary := F_read_primary.binds (ps := ["reader", "opened"]) fun _ _ _ _ _ _ us hl => match us, hl with | [_, _], _ => rfl
    m_read_primary := PySem.W.mg_of X G a_read_primary
    f_read_product := F_read_product
    b_read_product := F_read_product.binds (ps := ["reader", "opened"]) fun _ _ _ _ _ _ us hl => match us, hl with | [_, _], _ => rfl
    m_read_product := PySem.W.mg_of X G a_read_product
    f_read_sum := F_read_sum
    b_read_sum := F_read_sum.binds (ps := ["reader", "opened"]) fun _ _ _ _ _ _ us hl => match us, hl with | [_, _], _ => rfl
    m_read_sum := PySem.W.mg_of X G a_read_sum
    f_read_comparison := F_read_comparison
    b_read_comparison := F_read_comparison.binds (ps := ["reader", "opened"]) fun _ _ _ _ _ _ us hl => match us, hl with | [_, _], _ => rfl
    m_read_comparison := PySem.W.mg_of X G a_read_comparison
    f_read_expression := F_read_expression
    b_read_expression := F_read_expression.binds (ps := ["reader"]) fun _ _ _ _ _ _ us hl => match us, hl with | [_], _ => rfl
    m_read_expression := PySem.W.mg_of X G a_read_expression
    f_text_at := F_text_at
    b_text_at := F_text_at.binds (ps := ["expression", "level"]) fun _ _ _ _ _ _ us hl => match us, hl with | [_, _], _ => rfl
    m_text_at := PySem.W.mg_of X G a_text_at
    f_expression_text := F_expression_text
    b_expression_text := F_expression_text.binds (ps := ["expression"]) fun _ _ _ _ _ _ us hl => match us, hl with | [_], _ => rfl
    m_expression_text := PySem.W.mg_of X G a_expression_text
    f_read_deed := F_read_deed
    b_read_deed := F_read_deed.binds (ps := ["reader"]) fun _ _ _ _ _ _ us hl => match us, hl with | [_], _ => rfl
    m_read_deed := PySem.W.mg_of X G a_read_deed
    f_deed_text := F_deed_text
    b_deed_text := F_deed_text.binds (ps := ["deed"]) fun _ _ _ _ _ _ us hl => match us, hl with | [_], _ => rfl
    m_deed_text := PySem.W.mg_of X G a_deed_text
    f_Open__init := F_Open__init
    b_Open__init := F_Open__init.binds (ps := ["self", "head"]) fun _ _ _ _ _ _ us hl => match us, hl with | [_, _], _ => rfl
    me_Open__init := ⟨a_Open__init, i_Open__init, k_Open__init⟩
    f_Open_closed := F_Open_closed
    b_Open_closed := F_Open_closed.binds (ps := ["self"]) fun _ _ _ _ _ _ us hl => match us, hl with | [_], _ => rfl
    me_Open_closed := ⟨a_Open_closed, i_Open_closed, k_Open_closed⟩
    f_read_labelled := F_read_labelled
    b_read_labelled := F_read_labelled.binds (ps := ["reader"]) fun _ _ _ _ _ _ us hl => match us, hl with | [_], _ => rfl
    m_read_labelled := PySem.W.mg_of X G a_read_labelled
    f_read_worded := F_read_worded
    b_read_worded := F_read_worded.binds (ps := ["reader"]) fun _ _ _ _ _ _ us hl => match us, hl with | [_], _ => rfl
    m_read_worded := PySem.W.mg_of X G a_read_worded
    f_read_line := F_read_line
    b_read_line := F_read_line.binds (ps := ["line"]) fun _ _ _ _ _ _ us hl => match us, hl with | [_], _ => rfl
    m_read_line := PySem.W.mg_of X G a_read_line
    f_take_line := F_take_line
    b_take_line := F_take_line.binds (ps := ["stack", "found"]) fun _ _ _ _ _ _ us hl => match us, hl with | [_, _], _ => rfl
    m_take_line := PySem.W.mg_of X G a_take_line
    f_begin_else := F_begin_else
    b_begin_else := F_begin_else.binds (ps := ["top"]) fun _ _ _ _ _ _ us hl => match us, hl with | [_], _ => rfl
    m_begin_else := PySem.W.mg_of X G a_begin_else
    f_parse_body := F_parse_body
    b_parse_body := F_parse_body.binds (ps := ["text"]) fun _ _ _ _ _ _ us hl => match us, hl with | [_], _ => rfl
    m_parse_body := PySem.W.mg_of X G a_parse_body
    f_inner_lines := F_inner_lines
    b_inner_lines := F_inner_lines.binds (ps := ["body", "depth"]) fun _ _ _ _ _ _ us hl => match us, hl with | [_, _], _ => rfl
    m_inner_lines := PySem.W.mg_of X G a_inner_lines
    f_statement_lines := F_statement_lines
    b_statement_lines := F_statement_lines.binds (ps := ["statement", "depth"]) fun _ _ _ _ _ _ us hl => match us, hl with | [_, _], _ => rfl
    m_statement_lines := PySem.W.mg_of X G a_statement_lines
    f_body_text := F_body_text
    b_body_text := F_body_text.binds (ps := ["body"]) fun _ _ _ _ _ _ us hl => match us, hl with | [_], _ => rfl
    m_body_text := PySem.W.mg_of X G a_body_text
    f_law_cell := F_law_cell
    b_law_cell := F_law_cell.binds (ps := ["_law_script", "_law_k"]) fun _ _ _ _ _ _ us hl => match us, hl with | [_, _], _ => rfl
    m_law_cell := PySem.W.mg_of X G a_law_cell
    f_law_draws := F_law_draws
    b_law_draws := F_law_draws.binds (ps := ["_law_cell_here", "_law_count"]) fun _ _ _ _ _ _ us hl => match us, hl with | [_, _], _ => rfl
    m_law_draws := PySem.W.mg_of X G a_law_draws
    f_law_stream := F_law_stream
    b_law_stream := F_law_stream.binds (ps := ["_law_script", "_law_first", "_law_count"]) fun _ _ _ _ _ _ us hl => match us, hl with | [_, _, _], _ => rfl
    m_law_stream := PySem.W.mg_of X G a_law_stream
    f_law_next := F_law_next
    b_law_next := F_law_next.binds (ps := ["_law_stream_here", "_law_many"]) fun _ _ _ _ _ _ us hl => match us, hl with | [_, _], _ => rfl
    m_law_next := PySem.W.mg_of X G a_law_next
    f_law_variable := F_law_variable
    b_law_variable := F_law_variable.binds (ps := ["_law_stream_here"]) fun _ _ _ _ _ _ us hl => match us, hl with | [_], _ => rfl
    m_law_variable := PySem.W.mg_of X G a_law_variable
    f_law_number := F_law_number
    b_law_number := F_law_number.binds (ps := ["_law_stream_here"]) fun _ _ _ _ _ _ us hl => match us, hl with | [_], _ => rfl
    m_law_number := PySem.W.mg_of X G a_law_number
    f_law_expression := F_law_expression
    b_law_expression := F_law_expression.binds (ps := ["_law_stream_here", "_law_depth"]) fun _ _ _ _ _ _ us hl => match us, hl with | [_, _], _ => rfl
    m_law_expression := PySem.W.mg_of X G a_law_expression
    f_law_level := F_law_level
    b_law_level := F_law_level.binds (ps := ["_law_sign"]) fun _ _ _ _ _ _ us hl => match us, hl with | [_], _ => rfl
    m_law_level := PySem.W.mg_of X G a_law_level
    f_law_expression_text := F_law_expression_text
    b_law_expression_text := F_law_expression_text.binds (ps := ["_law_expression_here", "_law_level_here"]) fun _ _ _ _ _ _ us hl => match us, hl with | [_, _], _ => rfl
    m_law_expression_text := PySem.W.mg_of X G a_law_expression_text
    f_law_deed := F_law_deed
    b_law_deed := F_law_deed.binds (ps := ["_law_stream_here", "_law_conditional"]) fun _ _ _ _ _ _ us hl => match us, hl with | [_, _], _ => rfl
    m_law_deed := PySem.W.mg_of X G a_law_deed
    f_law_deed_text := F_law_deed_text
    b_law_deed_text := F_law_deed_text.binds (ps := ["_law_deed_here"]) fun _ _ _ _ _ _ us hl => match us, hl with | [_], _ => rfl
    m_law_deed_text := PySem.W.mg_of X G a_law_deed_text
    f_law_loose := F_law_loose
    b_law_loose := F_law_loose.binds (ps := ["_law_line", "_law_stream_here"]) fun _ _ _ _ _ _ us hl => match us, hl with | [_, _], _ => rfl
    m_law_loose := PySem.W.mg_of X G a_law_loose
    f_law_spread := F_law_spread
    b_law_spread := F_law_spread.binds (ps := ["_law_lines", "_law_stream_here"]) fun _ _ _ _ _ _ us hl => match us, hl with | [_, _], _ => rfl
    m_law_spread := PySem.W.mg_of X G a_law_spread
    f_law_is_integer := F_law_is_integer
    b_law_is_integer := F_law_is_integer.binds (ps := ["_law_actual"]) fun _ _ _ _ _ _ us hl => match us, hl with | [_], _ => rfl
    m_law_is_integer := PySem.W.mg_of X G a_law_is_integer
    f_law_same := F_law_same
    b_law_same := F_law_same.binds (ps := ["_law_actual", "_law_expected"]) fun _ _ _ _ _ _ us hl => match us, hl with | [_, _], _ => rfl
    m_law_same := PySem.W.mg_of X G a_law_same
    f_law_body := F_law_body
    b_law_body := F_law_body.binds (ps := ["_law_stream_here", "_law_state", "_law_around", "_law_depth"]) fun _ _ _ _ _ _ us hl => match us, hl with | [_, _, _, _], _ => rfl
    m_law_body := PySem.W.mg_of X G a_law_body
    f_law_body_lines := F_law_body_lines
    b_law_body_lines := F_law_body_lines.binds (ps := ["_law_body_here", "_law_depth"]) fun _ _ _ _ _ _ us hl => match us, hl with | [_, _], _ => rfl
    m_law_body_lines := PySem.W.mg_of X G a_law_body_lines
    f_law_drawn_body := F_law_drawn_body
    b_law_drawn_body := F_law_drawn_body.binds (ps := ["_law_script", "_law_first", "_law_count"]) fun _ _ _ _ _ _ us hl => match us, hl with | [_, _, _], _ => rfl
    m_law_drawn_body := PySem.W.mg_of X G a_law_drawn_body
    f_law := F_law
    b_law := F_law.binds (ps := ["_law_script"]) fun _ _ _ _ _ _ us hl => match us, hl with | [_], _ => rfl
    m_law := PySem.W.mg_of X G a_law
    g_SyntaxFault := PySem.W.mg_of X G c_SyntaxFault
    g_BadLine := PySem.W.mg_of X G c_BadLine
    g_Reader := PySem.W.mg_of X G c_Reader
    g_Open := PySem.W.mg_of X G c_Open
    cl_Reader := ⟨pg_Reader, hd_Reader, po_Reader, sa_Reader⟩
    n_Reader_signs := n_Reader_signs
    n_Reader_place := n_Reader_place
    mk_Reader := ⟨mk_Reader, a_Reader__init, i_Reader__init, kc_Reader⟩
    cl_Open := ⟨pg_Open, hd_Open, po_Open, sa_Open⟩
    n_Open_head := n_Open_head
    n_Open_then_body := n_Open_then_body
    n_Open_body := n_Open_body
    mk_Open := ⟨mk_Open, a_Open__init, i_Open__init, kc_Open⟩
    kp_SyntaxFault := kp_SyntaxFault
    r1_SyntaxFault := r1_SyntaxFault
    r2_SyntaxFault := r2_SyntaxFault
    ic_SyntaxFault := ic_SyntaxFault
    ss_SyntaxFault := ss_SyntaxFault
    x_BadLine := x_BadLine
    kp_BadLine := kp_BadLine
    r1_BadLine := r1_BadLine
    r2_BadLine := r2_BadLine
    ic_BadLine := ic_BadLine
    ss_BadLine := ss_BadLine
    k_LETTERS := PySem.W.mg_of X G g_LETTERS
    k_DIGITS := PySem.W.mg_of X G g_DIGITS
    k_SYMBOLS := PySem.W.mg_of X G g_SYMBOLS
    k_KEYWORDS := gtup_of [("entry", u0_KEYWORDS), ("goto", u1_KEYWORDS), ("else", u2_KEYWORDS), ("if", u3_KEYWORDS), ("print", u4_KEYWORDS), ("block", u5_KEYWORDS), ("loop", u6_KEYWORDS), ("break", u7_KEYWORDS), ("continue", u8_KEYWORDS), ("exit", u9_KEYWORDS)] (show 10 ≤ 1000 by decide) (PySem.W.mg_of X G g_KEYWORDS) o_KEYWORDS
    k_MOST_LETTERS := PySem.W.mg_of X G g_MOST_LETTERS
    k_MOST_NUMBER := PySem.W.mg_of X G g_MOST_NUMBER
    k_MOST_HEIGHT := PySem.W.mg_of X G g_MOST_HEIGHT
    k_MOST_OPEN := PySem.W.mg_of X G g_MOST_OPEN
    k_LEVELS := gdic_of [("=", u0_LEVELS, 0, v0_LEVELS), ("<", u1_LEVELS, 0, v1_LEVELS), ("+", u2_LEVELS, 1, v2_LEVELS), ("-", u3_LEVELS, 1, v3_LEVELS), ("*", u4_LEVELS, 2, v4_LEVELS)] (PySem.W.mg_of X G g_LEVELS) low_LEVELS o_LEVELS
    k_MOST_DEPTH := PySem.W.mg_of X G g_MOST_DEPTH
    z_abs := PySem.W.mg_none_of X G z_abs
    z_bool := PySem.W.mg_none_of X G z_bool
    z_enumerate := PySem.W.mg_none_of X G z_enumerate
    z_int := PySem.W.mg_none_of X G z_int
    z_isinstance := PySem.W.mg_none_of X G z_isinstance
    z_len := PySem.W.mg_none_of X G z_len
    z_list := PySem.W.mg_none_of X G z_list
    z_max := PySem.W.mg_none_of X G z_max
    z_range := PySem.W.mg_none_of X G z_range
    z_str := PySem.W.mg_none_of X G z_str
    z_tuple := PySem.W.mg_none_of X G z_tuple }
  exact ⟨_, fun s v => .of_eq rfl, fun base _ _ => ok_law T⟩
end L20
open PySem PySem.W PyProof.Rows in
set_option maxRecDepth 100000 in
set_option maxHeartbeats 0 in
theorem PySem.Challenge.cw_restruct_k20_bodies_read_holds : PySem.Challenge.rw_restruct_k20_bodies_read.Holds := by
  w_on; o_law; k_head; (case hw => w_witness2)
  k_fill
  refine QL.walkD (l := PySem.Challenge.rw_restruct_k20_bodies_read) (k := L20.lawLevel) (sp := L20.sp_law) rfl rfl L20.law_room (fun w h Y => PySem.W.kIn_of Y) ?F L20.law_good
  case F =>
    intro w mg fa h KX G hmg
    refine' L20.all_mk KX G hmg ?c_SyntaxFault ?c_BadLine ?c_Reader ?c_Open ?a_run_end ?l_run_end ?q_run_end ?k_run_end ?a_number_of ?l_number_of ?q_number_of ?k_number_of ?a_word_end ?l_word_end ?q_word_end ?k_word_end ?a_signs_of ?l_signs_of ?q_signs_of ?k_signs_of ?a_is_name ?l_is_name ?q_is_name ?k_is_name ?a_is_label ?l_is_label ?q_is_label ?k_is_label ?a_Reader__init ?i_Reader__init ?l_Reader__init ?q_Reader__init ?k_Reader__init ?a_Reader_peek ?i_Reader_peek ?l_Reader_peek ?q_Reader_peek ?k_Reader_peek ?a_Reader_take ?i_Reader_take ?l_Reader_take ?q_Reader_take ?k_Reader_take ?a_Reader_skip ?i_Reader_skip ?l_Reader_skip ?q_Reader_skip ?k_Reader_skip ?a_Reader_expect ?i_Reader_expect ?l_Reader_expect ?q_Reader_expect ?k_Reader_expect ?a_Reader_take_name ?i_Reader_take_name ?l_Reader_take_name ?q_Reader_take_name ?k_Reader_take_name ?a_Reader_take_label ?i_Reader_take_label ?l_Reader_take_label ?q_Reader_take_label ?k_Reader_take_label ?a_Reader_finish ?i_Reader_finish ?l_Reader_finish ?q_Reader_finish ?k_Reader_finish ?a_is_blank ?l_is_blank ?q_is_blank ?k_is_blank ?a_joined ?l_joined ?q_joined ?k_joined ?a_read_primary ?l_read_primary ?q_read_primary ?k_read_primary ?a_read_product ?l_read_product ?q_read_product ?k_read_product ?a_read_sum ?l_read_sum ?q_read_sum ?k_read_sum ?a_read_comparison ?l_read_comparison ?q_read_comparison ?k_read_comparison ?a_read_expression ?l_read_expression ?q_read_expression ?k_read_expression ?a_text_at ?l_text_at ?q_text_at ?k_text_at ?a_expression_text ?l_expression_text ?q_expression_text ?k_expression_text ?a_read_deed ?l_read_deed ?q_read_deed ?k_read_deed ?a_deed_text ?l_deed_text ?q_deed_text ?k_deed_text ?a_Open__init ?i_Open__init ?l_Open__init ?q_Open__init ?k_Open__init ?a_Open_closed ?i_Open_closed ?l_Open_closed ?q_Open_closed ?k_Open_closed ?a_read_labelled ?l_read_labelled ?q_read_labelled ?k_read_labelled ?a_read_worded ?l_read_worded ?q_read_worded ?k_read_worded ?a_read_line ?l_read_line ?q_read_line ?k_read_line ?a_take_line ?l_take_line ?q_take_line ?k_take_line ?a_begin_else ?l_begin_else ?q_begin_else ?k_begin_else ?a_parse_body ?l_parse_body ?q_parse_body ?k_parse_body ?a_inner_lines ?l_inner_lines ?q_inner_lines ?k_inner_lines ?a_statement_lines ?l_statement_lines ?q_statement_lines ?k_statement_lines ?a_body_text ?l_body_text ?q_body_text ?k_body_text ?a_law_cell ?l_law_cell ?q_law_cell ?k_law_cell ?a_law_draws ?l_law_draws ?q_law_draws ?k_law_draws ?a_law_stream ?l_law_stream ?q_law_stream ?k_law_stream ?a_law_next ?l_law_next ?q_law_next ?k_law_next ?a_law_variable ?l_law_variable ?q_law_variable ?k_law_variable ?a_law_number ?l_law_number ?q_law_number ?k_law_number ?a_law_expression ?l_law_expression ?q_law_expression ?k_law_expression ?a_law_level ?l_law_level ?q_law_level ?k_law_level ?a_law_expression_text ?l_law_expression_text ?q_law_expression_text ?k_law_expression_text ?a_law_deed ?l_law_deed ?q_law_deed ?k_law_deed ?a_law_deed_text ?l_law_deed_text ?q_law_deed_text ?k_law_deed_text ?a_law_loose ?l_law_loose ?q_law_loose ?k_law_loose ?a_law_spread ?l_law_spread ?q_law_spread ?k_law_spread ?a_law_is_integer ?l_law_is_integer ?q_law_is_integer ?k_law_is_integer ?a_law_same ?l_law_same ?q_law_same ?k_law_same ?a_law_body ?l_law_body ?q_law_body ?k_law_body ?a_law_body_lines ?l_law_body_lines ?q_law_body_lines ?k_law_body_lines ?a_law_drawn_body ?l_law_drawn_body ?q_law_drawn_body ?k_law_drawn_body ?a_law ?l_law ?q_law ?k_law ?pg_Reader ?hd_Reader ?po_Reader ?sa_Reader ?mk_Reader ?kc_Reader ?n_Reader_signs ?n_Reader_place ?pg_Open ?hd_Open ?po_Open ?sa_Open ?mk_Open ?kc_Open ?n_Open_head ?n_Open_then_body ?n_Open_body ?kp_SyntaxFault ?r1_SyntaxFault ?r2_SyntaxFault ?ic_SyntaxFault ?ss_SyntaxFault ?hd_SyntaxFault ?x_BadLine ?kp_BadLine ?r1_BadLine ?r2_BadLine ?ic_BadLine ?ss_BadLine ?hd_BadLine ?s_BadLine_BadLine ?s_SyntaxFault_BadLine ?g_LETTERS ?g_DIGITS ?g_SYMBOLS ?g_KEYWORDS ?o_KEYWORDS ?g_MOST_LETTERS ?g_MOST_NUMBER ?g_MOST_HEIGHT ?g_MOST_OPEN ?g_LEVELS ?o_LEVELS ?low_LEVELS ?g_MOST_DEPTH ?z_abs ?z_bool ?z_enumerate ?z_int ?z_isinstance ?z_len ?z_list ?z_max ?z_range ?z_str ?z_tuple
    (case c_SyntaxFault => k_is)
    (case c_BadLine => k_is)
    (case c_Reader => k_is)
    (case c_Open => k_is)
    (case a_run_end => k_is)
    (case l_run_end => k_is)
    (case q_run_end => k_is)
    (case k_run_end => k_is)
    (case a_number_of => k_is)
    (case l_number_of => k_is)
    (case q_number_of => k_is)
    (case k_number_of => k_is)
    (case a_word_end => k_is)
    (case l_word_end => k_is)
    (case q_word_end => k_is)
    (case k_word_end => k_is)
    (case a_signs_of => k_is)
    (case l_signs_of => k_is)
    (case q_signs_of => k_is)
    (case k_signs_of => k_is)
    (case a_is_name => k_is)
    (case l_is_name => k_is)
    (case q_is_name => k_is)
    (case k_is_name => k_is)
    (case a_is_label => k_is)
    (case l_is_label => k_is)
    (case q_is_label => k_is)
    (case k_is_label => k_is)
    (case a_Reader__init => k_is)
    (case i_Reader__init => k_is)
    (case l_Reader__init => k_is)
    (case q_Reader__init => k_is)
    (case k_Reader__init => k_is)
    (case a_Reader_peek => k_is)
    (case i_Reader_peek => k_is)
    (case l_Reader_peek => k_is)
    (case q_Reader_peek => k_is)
    (case k_Reader_peek => k_is)
    (case a_Reader_take => k_is)
    (case i_Reader_take => k_is)
    (case l_Reader_take => k_is)
    (case q_Reader_take => k_is)
    (case k_Reader_take => k_is)
    (case a_Reader_skip => k_is)
    (case i_Reader_skip => k_is)
    (case l_Reader_skip => k_is)
    (case q_Reader_skip => k_is)
    (case k_Reader_skip => k_is)
    (case a_Reader_expect => k_is)
    (case i_Reader_expect => k_is)
    (case l_Reader_expect => k_is)
    (case q_Reader_expect => k_is)
    (case k_Reader_expect => k_is)
    (case a_Reader_take_name => k_is)
    (case i_Reader_take_name => k_is)
    (case l_Reader_take_name => k_is)
    (case q_Reader_take_name => k_is)
    (case k_Reader_take_name => k_is)
    (case a_Reader_take_label => k_is)
    (case i_Reader_take_label => k_is)
    (case l_Reader_take_label => k_is)
    (case q_Reader_take_label => k_is)
    (case k_Reader_take_label => k_is)
    (case a_Reader_finish => k_is)
    (case i_Reader_finish => k_is)
    (case l_Reader_finish => k_is)
    (case q_Reader_finish => k_is)
    (case k_Reader_finish => k_is)
    (case a_is_blank => k_is)
    (case l_is_blank => k_is)
    (case q_is_blank => k_is)
    (case k_is_blank => k_is)
    (case a_joined => k_is)
    (case l_joined => k_is)
    (case q_joined => k_is)
    (case k_joined => k_is)
    (case a_read_primary => k_is)
    (case l_read_primary => k_is)
    (case q_read_primary => k_is)
    (case k_read_primary => k_is)
    (case a_read_product => k_is)
    (case l_read_product => k_is)
    (case q_read_product => k_is)
    (case k_read_product => k_is)
    (case a_read_sum => k_is)
    (case l_read_sum => k_is)
    (case q_read_sum => k_is)
    (case k_read_sum => k_is)
    (case a_read_comparison => k_is)
    (case l_read_comparison => k_is)
    (case q_read_comparison => k_is)
    (case k_read_comparison => k_is)
    (case a_read_expression => k_is)
    (case l_read_expression => k_is)
    (case q_read_expression => k_is)
    (case k_read_expression => k_is)
    (case a_text_at => k_is)
    (case l_text_at => k_is)
    (case q_text_at => k_is)
    (case k_text_at => k_is)
    (case a_expression_text => k_is)
    (case l_expression_text => k_is)
    (case q_expression_text => k_is)
    (case k_expression_text => k_is)
    (case a_read_deed => k_is)
    (case l_read_deed => k_is)
    (case q_read_deed => k_is)
    (case k_read_deed => k_is)
    (case a_deed_text => k_is)
    (case l_deed_text => k_is)
    (case q_deed_text => k_is)
    (case k_deed_text => k_is)
    (case a_Open__init => k_is)
    (case i_Open__init => k_is)
    (case l_Open__init => k_is)
    (case q_Open__init => k_is)
    (case k_Open__init => k_is)
    (case a_Open_closed => k_is)
    (case i_Open_closed => k_is)
    (case l_Open_closed => k_is)
    (case q_Open_closed => k_is)
    (case k_Open_closed => k_is)
    (case a_read_labelled => k_is)
    (case l_read_labelled => k_is)
    (case q_read_labelled => k_is)
    (case k_read_labelled => k_is)
    (case a_read_worded => k_is)
    (case l_read_worded => k_is)
    (case q_read_worded => k_is)
    (case k_read_worded => k_is)
    (case a_read_line => k_is)
    (case l_read_line => k_is)
    (case q_read_line => k_is)
    (case k_read_line => k_is)
    (case a_take_line => k_is)
    (case l_take_line => k_is)
    (case q_take_line => k_is)
    (case k_take_line => k_is)
    (case a_begin_else => k_is)
    (case l_begin_else => k_is)
    (case q_begin_else => k_is)
    (case k_begin_else => k_is)
    (case a_parse_body => k_is)
    (case l_parse_body => k_is)
    (case q_parse_body => k_is)
    (case k_parse_body => k_is)
    (case a_inner_lines => k_is)
    (case l_inner_lines => k_is)
    (case q_inner_lines => k_is)
    (case k_inner_lines => k_is)
    (case a_statement_lines => k_is)
    (case l_statement_lines => k_is)
    (case q_statement_lines => k_is)
    (case k_statement_lines => k_is)
    (case a_body_text => k_is)
    (case l_body_text => k_is)
    (case q_body_text => k_is)
    (case k_body_text => k_is)
    (case a_law_cell => k_is)
    (case l_law_cell => k_is)
    (case q_law_cell => k_is)
    (case k_law_cell => k_is)
    (case a_law_draws => k_is)
    (case l_law_draws => k_is)
    (case q_law_draws => k_is)
    (case k_law_draws => k_is)
    (case a_law_stream => k_is)
    (case l_law_stream => k_is)
    (case q_law_stream => k_is)
    (case k_law_stream => k_is)
    (case a_law_next => k_is)
    (case l_law_next => k_is)
    (case q_law_next => k_is)
    (case k_law_next => k_is)
    (case a_law_variable => k_is)
    (case l_law_variable => k_is)
    (case q_law_variable => k_is)
    (case k_law_variable => k_is)
    (case a_law_number => k_is)
    (case l_law_number => k_is)
    (case q_law_number => k_is)
    (case k_law_number => k_is)
    (case a_law_expression => k_is)
    (case l_law_expression => k_is)
    (case q_law_expression => k_is)
    (case k_law_expression => k_is)
    (case a_law_level => k_is)
    (case l_law_level => k_is)
    (case q_law_level => k_is)
    (case k_law_level => k_is)
    (case a_law_expression_text => k_is)
    (case l_law_expression_text => k_is)
    (case q_law_expression_text => k_is)
    (case k_law_expression_text => k_is)
    (case a_law_deed => k_is)
    (case l_law_deed => k_is)
    (case q_law_deed => k_is)
    (case k_law_deed => k_is)
    (case a_law_deed_text => k_is)
    (case l_law_deed_text => k_is)
    (case q_law_deed_text => k_is)
    (case k_law_deed_text => k_is)
    (case a_law_loose => k_is)
    (case l_law_loose => k_is)
    (case q_law_loose => k_is)
    (case k_law_loose => k_is)
    (case a_law_spread => k_is)
    (case l_law_spread => k_is)
    (case q_law_spread => k_is)
    (case k_law_spread => k_is)
    (case a_law_is_integer => k_is)
    (case l_law_is_integer => k_is)
    (case q_law_is_integer => k_is)
    (case k_law_is_integer => k_is)
    (case a_law_same => k_is)
    (case l_law_same => k_is)
    (case q_law_same => k_is)
    (case k_law_same => k_is)
    (case a_law_body => k_is)
    (case l_law_body => k_is)
    (case q_law_body => k_is)
    (case k_law_body => k_is)
    (case a_law_body_lines => k_is)
    (case l_law_body_lines => k_is)
    (case q_law_body_lines => k_is)
    (case k_law_body_lines => k_is)
    (case a_law_drawn_body => k_is)
    (case l_law_drawn_body => k_is)
    (case q_law_drawn_body => k_is)
    (case k_law_drawn_body => k_is)
    (case a_law => k_is)
    (case l_law => k_is)
    (case q_law => k_is)
    (case k_law => k_is)
    (case pg_Reader => k_is)
    (case hd_Reader => k_is)
    (case po_Reader => k_is)
    (case sa_Reader => k_is)
    (case mk_Reader => k_is)
    (case kc_Reader => k_is)
    (case n_Reader_signs => k_is)
    (case n_Reader_place => k_is)
    (case pg_Open => k_is)
    (case hd_Open => k_is)
    (case po_Open => k_is)
    (case sa_Open => k_is)
    (case mk_Open => k_is)
    (case kc_Open => k_is)
    (case n_Open_head => k_is)
    (case n_Open_then_body => k_is)
    (case n_Open_body => k_is)
    (case kp_SyntaxFault => k_is)
    (case r1_SyntaxFault => k_is)
    (case r2_SyntaxFault => k_is)
    (case ic_SyntaxFault => k_is)
    (case ss_SyntaxFault => k_is)
    (case hd_SyntaxFault => k_is)
    (case x_BadLine => k_exc)
    (case kp_BadLine => k_is)
    (case r1_BadLine => k_is)
    (case r2_BadLine => k_is)
    (case ic_BadLine => k_is)
    (case ss_BadLine => k_is)
    (case hd_BadLine => k_is)
    (case s_BadLine_BadLine => k_is)
    (case s_SyntaxFault_BadLine => k_is)
    (case g_LETTERS => k_is)
    (case g_DIGITS => k_is)
    (case g_SYMBOLS => k_is)
    (case g_KEYWORDS => k_is)
    (case o_KEYWORDS => k_is)
    (case g_MOST_LETTERS => k_is)
    (case g_MOST_NUMBER => k_is)
    (case g_MOST_HEIGHT => k_is)
    (case g_MOST_OPEN => k_is)
    (case g_LEVELS => k_is)
    (case o_LEVELS => k_is)
    (case low_LEVELS => decide)
    (case g_MOST_DEPTH => k_is)
    (case z_abs => k_is)
    (case z_bool => k_is)
    (case z_enumerate => k_is)
    (case z_int => k_is)
    (case z_isinstance => k_is)
    (case z_len => k_is)
    (case z_list => k_is)
    (case z_max => k_is)
    (case z_range => k_is)
    (case z_str => k_is)
    (case z_tuple => k_is)
