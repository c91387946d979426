import PyProof.Rows.All
import Wide.All
import OpenK.AllK
import Wide.FinOn
import HandS.ForMost
import HandS.Exc
import HandS.TryOnly
import HandS.TryMany
import HandS.ExcInit
import HandS.ExcField
import HandS.WordsExc
import HandS.Defaults
import HandS.HeadHook1
import HandS.HeadHook2
import KE.DataEq
import KE.DataCmp
import KE.SortData
import KE.DataIsa
import KE.DatumIndex
import KE.DataAny
import HandS.TupMul
import HandS.TupAny
import HandS.Style
import HandS.TupLe
import HandS.IsInst
import HandS.RaiseMore
import HandS.Conv
import KE.SortCalls
import KE.LtData
import KE.LtSeq
import KE.KDictCopyH
import KE.KDictSum
import HandS.Flow
import HandS.Comp
import HandS.Zip
import HandS.Iter
import HandS.Codes
import PyProof.Walk
import PyProof.WalkLemmas
import PyProof.RaisesAny
import PyProof.FactsSeq
import PyProof.SeqWrite
import PyProof.AutoSeq1
import HandS.Dict
import HandS.DictComp
import HandS.HeadHook3
import HandS.HeadHook4
import KE.DataFind
import HandS.Strs
import HandS.HeadEnd
import HandS.Ends
import HandS.Head0
import HandS.Head1
import HandS.Head2
import PySem.Challenge.RW_answerbits_k49_whole_conditions_of_steps
set_option Elab.async false
set_option linter.all false
set_option maxRecDepth 100000
set_option maxHeartbeats 2000000
/-! DL: a layer of plain data over HandS. Values are PyData (read only), lists and dicts of a frame (loc), objects that are shared (obj), names of the module (glob). A def's meaning is a plain function. -/
namespace DL
open PySem PySem.Spec PyProof.Rows L2

/-! ### what is frozen -/
/-- the part of an abstract heap that never changes -/
def flatK : V → Bool
  | .int _ => true
  | .str _ => true
  | _ => false
/-- tuples; lists that are let go; tuples known to the object, which no key may be -/
def Fz (H : Hp) : Hp := fun a => match H a with
  | some (.tup xs) => some (.tup xs)
  | some (.frz o (.lst xs)) => some (.frz o (.lst xs))
  | some (.frz o (.tup xs)) => if xs.all flatK = true then none else some (.frz o (.tup xs))
  | _ => none
theorem Fz_sub {H : Hp} {a : Addr} {o : HO} (h : Fz H a = some o) : H a = some o := by
  unfold Fz at h
  split at h
  · rename_i xs e
    rw [e]; exact h
  · rename_i ob u e
    rw [e]; exact h
  · rename_i ob u e
    split at h
    · cases h
    · rw [e]; exact h
  · cases h
theorem Fz_same (H : Hp) : Same (Fz H) H := fun _ _ h => Fz_sub h
theorem Fz_tup {H : Hp} {a : Addr} {xs : List V} (h : H a = some (.tup xs)) : Fz H a = some (.tup xs) := by
  unfold Fz; rw [h]
theorem Fz_frz {H : Hp} {a : Addr} {o : Obj} {u : List V} (h : H a = some (.frz o (.lst u))) : Fz H a = some (.frz o (.lst u)) := by
  unfold Fz; rw [h]
theorem Fz_ktup {H : Hp} {a : Addr} {o : Obj} {u : List V} (h : H a = some (.frz o (.tup u))) (hf : u.all flatK = false) : Fz H a = some (.frz o (.tup u)) := by
  unfold Fz
  rw [h]
  show (if u.all flatK = true then none else some (HO.frz o (.tup u))) = _
  rw [hf, if_neg Bool.false_ne_true]
theorem Fz_cases {H : Hp} {a : Addr} {o : HO} (h : Fz H a = some o) : (∃ xs, o = .tup xs) ∨ (∃ ob u, o = .frz ob (.lst u)) ∨ ∃ ob u, o = .frz ob (.tup u) ∧ u.all flatK = false := by
  unfold Fz at h
  split at h
  · exact .inl ⟨_, (Option.some.inj h).symm⟩
  · exact .inr (.inl ⟨_, _, (Option.some.inj h).symm⟩)
  · split at h
    · cases h
    · rename_i hf
      exact .inr (.inr ⟨_, _, (Option.some.inj h).symm, by simpa using hf⟩)
  · cases h
/-- frozen things stay -/
abbrev FS (H H' : Hp) : Prop := Same (Fz H) (Fz H')
theorem FS.of {H H' : Hp} (k : ∀ b o, H b = some o → Fz H b = some o → H' b = some o) : FS H H' := fun b o h => by
  have e := k b o (Fz_sub h) h
  rcases Fz_cases h with ⟨xs, rfl⟩ | ⟨ob, u, rfl⟩ | ⟨ob, u, rfl, hf⟩
  · exact Fz_tup e
  · exact Fz_frz e
  · exact Fz_ktup e hf
theorem FS.same {H H' : Hp} (k : Same H H') : FS H H' := FS.of fun b o h _ => k b o h
/-- a thing that is not frozen is written -/
theorem FS.upd {H : Hp} {a : Addr} {o : HO} (h : Fz H a = none) : FS H (upd H a o) := FS.of fun b u e f => by
  have hb : b ≠ a := fun z => by rw [z, h] at f; cases f
  rw [upd_ne hb]; exact e
theorem Fz_none {H : Hp} {a : Addr} (h : H a = none) : Fz H a = none := by
  unfold Fz; rw [h]
theorem Fz_lst {H : Hp} {a : Addr} {xs : List V} (h : H a = some (.lst xs)) : Fz H a = none := by
  unfold Fz; rw [h]
theorem Fz_dK {H : Hp} {a : Addr} {xs : List (Key × V)} (h : H a = some (.dK xs)) : Fz H a = none := by
  unfold Fz; rw [h]
theorem Fz_dT {H : Hp} {a : Addr} {xs : List (List Key × V)} (h : H a = some (.dT xs)) : Fz H a = none := by
  unfold Fz; rw [h]
theorem Fz_ins {H : Hp} {a C dx : Addr} {xs : List (Str × V)} (h : H a = some (.ins C dx xs)) : Fz H a = none := by
  unfold Fz; rw [h]

/-! ### data -/
section
variable {K : PySem.W.Frag} {H H' : Hp}
theorem sqL_mono (e : Same H H') {a : Addr} {xs : List V} (h : SqL K H a xs) : SqL K H' a xs := e.seq h
theorem sqT_mono (e : Same H H') {a : Addr} {xs : List V} (h : SqT K H a xs) : SqT K H' a xs := by
  rcases h with (h | ⟨o, h⟩) | h
  · exact .inl (.inl (e _ _ h))
  · exact .inl (.inr ⟨o, e _ _ h⟩)
  · exact .inr h
mutual
theorem dp_mono (e : Same H H') : ∀ (d : PyData) (v : V), Dp K H v d → Dp K H' v d
  | .none, _, h => by cases h; exact .non
  | .bool b, _, h => by cases h; exact .bl b
  | .int i, _, h => by cases h; exact .int i
  | .str x, _, h => by cases h; exact .str x
  | .list ds, _, h => by
    cases h with
    | lst hs ha => exact .lst (sqL_mono e hs) (dpAll_mono e ds _ ha)
  | .tuple ds, _, h => by
    cases h with
    | tup hs ha => exact .tup (sqT_mono e hs) (dpAll_mono e ds _ ha)
  | .dict _, _, h => by cases h
theorem dpAll_mono (e : Same H H') : ∀ (ds : List PyData) (vs : List V), DpAll K H vs ds → DpAll K H' vs ds
  | [], _, h => by cases h; exact .nil
  | d :: ds, _, h => by
    cases h with
    | cons h1 h2 => exact .cons (dp_mono e d _ h1) (dpAll_mono e ds _ h2)
end
theorem sqL_up {a : Addr} {xs : List V} (h : SqL [] (Fz H) a xs) : SqL K H a xs := by
  rcases h with (h | ⟨o, h⟩) | ⟨o, its, n, h, _⟩
  · exact .inl (.inl (Fz_same H _ _ h))
  · exact .inl (.inr ⟨o, Fz_same H _ _ h⟩)
  · cases h
theorem sqT_up {a : Addr} {xs : List V} (h : SqT [] (Fz H) a xs) : SqT K H a xs := by
  rcases h with (h | ⟨o, h⟩) | ⟨o, its, n, h, _⟩
  · exact .inl (.inl (Fz_same H _ _ h))
  · exact .inl (.inr ⟨o, Fz_same H _ _ h⟩)
  · cases h
/-- a flat tuple of the data stands in the heap -/
theorem flatK_kV (k : Key) : flatK (kV k) = true := by cases k <;> rfl
theorem sqT_tup {a : Addr} {ks : List Key} (h : SqT [] (Fz H) a (ks.map kV)) : H a = some (.tup (ks.map kV)) := by
  rcases h with (h | ⟨o, h⟩) | ⟨o, its, n, h, _⟩
  · exact Fz_same H _ _ h
  · rcases Fz_cases h with ⟨ys, e⟩ | ⟨ob, u, e⟩ | ⟨ob, u, e, hf⟩
    · cases e
    · cases e
    · injection e with e1 e2
      injection e2 with e3
      subst e3
      have : (ks.map kV).all flatK = true := by simp [flatK_kV]
      rw [this] at hf; cases hf
  · cases h
mutual
theorem dp_up : ∀ (d : PyData) (v : V), Dp [] (Fz H) v d → Dp K H v d
  | .none, _, h => by cases h; exact .non
  | .bool b, _, h => by cases h; exact .bl b
  | .int i, _, h => by cases h; exact .int i
  | .str x, _, h => by cases h; exact .str x
  | .list ds, _, h => by
    cases h with
    | lst hs ha => exact .lst (sqL_up hs) (dpAll_up ds _ ha)
  | .tuple ds, _, h => by
    cases h with
    | tup hs ha => exact .tup (sqT_up hs) (dpAll_up ds _ ha)
  | .dict _, _, h => by cases h
theorem dpAll_up : ∀ (ds : List PyData) (vs : List V), DpAll [] (Fz H) vs ds → DpAll K H vs ds
  | [], _, h => by cases h; exact .nil
  | d :: ds, _, h => by
    cases h with
    | cons h1 h2 => exact .cons (dp_up d _ h1) (dpAll_up ds _ h2)
end
mutual
theorem dp_plain : ∀ (d : PyData) (v : V), Dp K H v d → d.plain = true
  | .none, _, _ => rfl
  | .bool b, _, _ => rfl
  | .int i, _, _ => rfl
  | .str x, _, _ => rfl
  | .list ds, _, h => by
    cases h with
    | lst hs ha => exact dpAll_plain ds _ ha
  | .tuple ds, _, h => by
    cases h with
    | tup hs ha => exact dpAll_plain ds _ ha
  | .dict _, _, h => by cases h
theorem dpAll_plain : ∀ (ds : List PyData) (vs : List V), DpAll K H vs ds → PyData.plainAll ds = true
  | [], _, _ => rfl
  | d :: ds, _, h => by
    cases h with
    | cons h1 h2 =>
      show (d.plain && PyData.plainAll ds) = true
      rw [dp_plain d _ h1, dpAll_plain ds _ h2]; rfl
end
theorem dpAll_len : ∀ {ds : List PyData} {vs : List V}, DpAll K H vs ds → vs.length = ds.length
  | [], _, h => by cases h; rfl
  | d :: ds, _, h => by
    cases h with
    | cons h1 h2 => simp [dpAll_len h2]
theorem dpAll_get : ∀ {ds : List PyData} {vs : List V} {i : Nat} {d : PyData}, DpAll K H vs ds → ds[i]? = some d → ∃ v, vs[i]? = some v ∧ Dp K H v d
  | [], _, i, d, h, e => by simp at e
  | d :: ds, _, 0, d', h, e => by
    cases h with
    | cons h1 h2 =>
      have e' : d = d' := by simpa using e
      subst e'
      exact ⟨_, rfl, h1⟩
  | d :: ds, _, i + 1, d', h, e => by
    cases h with
    | cons h1 h2 =>
      obtain ⟨v, a, b⟩ := dpAll_get (i := i) (d := d') h2 (by simpa using e)
      exact ⟨v, by simpa using a, b⟩
theorem dpAll_getV : ∀ {ds : List PyData} {vs : List V} {i : Nat} {v : V}, DpAll K H vs ds → vs[i]? = some v → ∃ d, ds[i]? = some d ∧ Dp K H v d
  | [], _, i, v, h, e => by cases h; simp at e
  | d :: ds, _, 0, v, h, e => by
    cases h with
    | cons h1 h2 =>
      simp at e; subst e
      exact ⟨_, rfl, h1⟩
  | d :: ds, _, i + 1, v, h, e => by
    cases h with
    | cons h1 h2 =>
      obtain ⟨d', a, b⟩ := dpAll_getV (i := i) (v := v) h2 (by simpa using e)
      exact ⟨d', by simpa using a, b⟩
theorem dpAll_append : ∀ {ds es : List PyData} {vs us : List V}, DpAll K H vs ds → DpAll K H us es → DpAll K H (vs ++ us) (ds ++ es)
  | [], _, _, _, h, g => by cases h; exact g
  | d :: ds, _, _, _, h, g => by
    cases h with
    | cons h1 h2 => exact .cons h1 (dpAll_append h2 g)
theorem dpAll_take : ∀ {ds : List PyData} {vs : List V} (n : Nat), DpAll K H vs ds → DpAll K H (vs.take n) (ds.take n)
  | _, _, 0, _ => by simp; exact .nil
  | [], _, n + 1, h => by cases h; exact .nil
  | d :: ds, _, n + 1, h => by
    cases h with
    | cons h1 h2 => exact .cons h1 (dpAll_take n h2)
theorem dpAll_drop : ∀ {ds : List PyData} {vs : List V} (n : Nat), DpAll K H vs ds → DpAll K H (vs.drop n) (ds.drop n)
  | _, _, 0, h => h
  | [], _, n + 1, h => by cases h; exact .nil
  | d :: ds, _, n + 1, h => by
    cases h with
    | cons h1 h2 => exact dpAll_drop n h2
theorem dpAll_set : ∀ {ds : List PyData} {vs : List V} {d : PyData} {v : V} (n : Nat), DpAll K H vs ds → Dp K H v d → DpAll K H (vs.set n v) (ds.set n d)
  | [], _, _, _, n, h, _ => by cases h; exact .nil
  | d :: ds, _, _, _, 0, h, g => by
    cases h with
    | cons h1 h2 => exact .cons g h2
  | d :: ds, _, _, _, n + 1, h, g => by
    cases h with
    | cons h1 h2 => exact .cons h1 (dpAll_set n h2 g)
theorem dpAll_erase : ∀ {ds : List PyData} {vs : List V} (n : Nat), DpAll K H vs ds → DpAll K H (vs.eraseIdx n) (ds.eraseIdx n)
  | [], _, n, h => by cases h; exact .nil
  | d :: ds, _, 0, h => by
    cases h with
    | cons h1 h2 => exact h2
  | d :: ds, _, n + 1, h => by
    cases h with
    | cons h1 h2 => exact .cons h1 (dpAll_erase n h2)
theorem dpAll_rep {ds : List PyData} {vs : List V} (h : DpAll K H vs ds) : ∀ k : Nat, DpAll K H (List.replicate k vs).flatten (List.replicate k ds).flatten
  | 0 => .nil
  | k + 1 => by
    show DpAll K H (vs ++ (List.replicate k vs).flatten) (ds ++ (List.replicate k ds).flatten)
    exact dpAll_append h (dpAll_rep h k)
theorem dpAll_reverse : ∀ {ds : List PyData} {vs : List V}, DpAll K H vs ds → DpAll K H vs.reverse ds.reverse
  | [], _, h => by cases h; exact .nil
  | d :: ds, _, h => by
    cases h with
    | cons h1 h2 =>
      rw [List.reverse_cons, List.reverse_cons]
      exact dpAll_append (dpAll_reverse h2) (.cons h1 .nil)
end

/-! ### values, the stores -/
/-- a value: data that is read only; scr: the script; a shared object; a name of the module; a list or dict of the frame -/
inductive D where
  | py (p : PyData)
  | obj (n : Nat)
  | glob (x : Str)
  | loc (n : Nat)
  | scr (ns : List Int)
/-- a shared object; pen: a law's pen, of which nothing is told -/
inductive GO where
  | lst (ds : List PyData)
  | dK (kvs : List (Key × D))
  | dT (kvs : List (List Key × D))
  | ins (C : Str) (fs : List (Str × D))
  | pen
/-- a list or dict of the frame; frozen: it may be read still -/
inductive LO where
  | lst (ds : List PyData)
  | flst (ds : List PyData)
  | dK (kvs : List (Key × PyData))
  | dT (kvs : List (List Key × PyData))
  | ktup (ds : List PyData)
structure ST where
  S : List (Option D)
  L : List LO
  G : List GO
/-- what comes of a piece of code -/
inductive Out (α : Type) where
  | ok (a : α) (s : ST)
  | exc (C : Str) (fs : List (Str × PyData)) (s : ST)
  | no
  | pick (n : Nat) (k : Nat → Out α)
/-- how a statement ends -/
inductive Fl where
  | nx | bk | ct
  | ret (d : D)
abbrev FE := ST → Out D
abbrev FT := ST → Out Bool
abbrev FA := ST → Out (List D)
abbrev FSt := ST → Out Fl
def Out.bind {α β : Type} : Out α → (α → ST → Out β) → Out β
  | .ok a s, k => k a s
  | .exc C fs s, _ => .exc C fs s
  | .no, _ => .no
  | .pick n f, k => .pick n fun i => (f i).bind k

def RepD (K : PySem.W.Frag) (H : Hp) (φ ψ : List Addr) : D → V → Prop
  | .py p, v => Dp [] (Fz H) v p
  | .obj n, v => ∃ a, φ[n]? = some a ∧ v = .ref a
  | .glob x, v => v = .ref (He.ga K x)
  | .loc n, v => ∃ a, ψ[n]? = some a ∧ v = .ref a
  | .scr ns, v => ∃ a, v = .ref a ∧ SqL K (Fz H) a (ns.map V.int)
/-- a pen's dict -/
def penOk : List (Key × PyData) → Bool
  | [(.inr k1, .list cs), (.inr k2, .int i), (.inr k3, .int _), (.inr k4, .int _), (.inr k5, .int _)] =>
    k1 == ("cells" : Str) && k2 == ("at" : Str) && k3 == ("digits" : Str) && k4 == ("count" : Str) && k5 == ("fold" : Str) && decide (0 ≤ i) && cs.all fun c => match c with
      | .int _ => true
      | _ => false
  | _ => false
def RepG (K : PySem.W.Frag) (H : Hp) (φ : List Addr) (a : Addr) : GO → Prop
  | .dT kvs => ∃ vvs, H a = some (.dT vvs) ∧ Paired (fun (p : List Key × D) (q : List Key × V) => p.1 = q.1 ∧ RepD K H φ [] p.2 q.2) kvs vvs
  | .pen => ∃ kvs, penOk kvs = true ∧ ∃ vvs, H a = some (.dK vvs) ∧ Paired (fun (p : Key × PyData) (q : Key × V) => p.1 = q.1 ∧ Dp [] (Fz H) q.2 p.2) kvs vvs
  | .lst ds => ∃ vs, H a = some (.lst vs) ∧ DpAll [] (Fz H) vs ds
  | .dK kvs => ∃ vvs, H a = some (.dK vvs) ∧ Paired (fun (p : Key × D) (q : Key × V) => p.1 = q.1 ∧ RepD K H φ [] p.2 q.2) kvs vvs
  | .ins C fs => ∃ dx vfs, H a = some (.ins (He.ga K C) dx vfs) ∧ Paired (fun (p : Str × D) (q : Str × V) => p.1 = q.1 ∧ RepD K H φ [] p.2 q.2) fs vfs
def RepL (K : PySem.W.Frag) (H : Hp) (a : Addr) : LO → Prop
  | .lst ds => ∃ vs, H a = some (.lst vs) ∧ DpAll [] (Fz H) vs ds
  | .flst ds => ∃ o vs, H a = some (.frz o (.lst vs)) ∧ DpAll [] (Fz H) vs ds
  | .dK kvs => ∃ vvs, H a = some (.dK vvs) ∧ Paired (fun (p : Key × PyData) (q : Key × V) => p.1 = q.1 ∧ Dp [] (Fz H) q.2 p.2) kvs vvs
  | .dT kvs => ∃ vvs, H a = some (.dT vvs) ∧ Paired (fun (p : List Key × PyData) (q : List Key × V) => p.1 = q.1 ∧ Dp [] (Fz H) q.2 p.2) kvs vvs
  | .ktup ds => ∃ o vs, H a = some (.frz o (.tup vs)) ∧ (o.dict = none ∧ vs.all flatK = false) ∧ DpAll [] (Fz H) vs ds
def RepF (K : PySem.W.Frag) (H : Hp) (fs : List (Str × PyData)) (vfs : List (Str × V)) : Prop :=
  Paired (fun (p : Str × PyData) (q : Str × V) => p.1 = q.1 ∧ Dp [] (Fz H) q.2 p.2) fs vfs

/-- a longer list of addresses -/
def Pre (φ φ' : List Addr) : Prop := ∀ (n : Nat) a, φ[n]? = some a → φ'[n]? = some a
theorem Pre.refl (φ : List Addr) : Pre φ φ := fun _ _ h => h
theorem Pre.trans {φ φ1 φ2 : List Addr} (a : Pre φ φ1) (b : Pre φ1 φ2) : Pre φ φ2 := fun n x h => b n x (a n x h)
theorem Pre.app (φ more : List Addr) : Pre φ (φ ++ more) := fun n a h => by
  have hl : n < φ.length := (List.getElem?_eq_some_iff.mp h).1
  rw [List.getElem?_append_left hl]; exact h

section
variable {K : PySem.W.Frag} {H H' : Hp} {φ φ' ψ ψ' : List Addr}
theorem RepD.mono (f : FS H H') (p : Pre φ φ') (q : Pre ψ ψ') : ∀ {d : D} {v : V}, RepD K H φ ψ d v → RepD K H' φ' ψ' d v
  | .py _, _, h => dp_mono f _ _ h
  | .obj _, _, ⟨a, e, h⟩ => ⟨a, p _ _ e, h⟩
  | .glob _, _, h => h
  | .loc _, _, ⟨a, e, h⟩ => ⟨a, q _ _ e, h⟩
  | .scr _, _, ⟨a, e, h⟩ => ⟨a, e, sqL_mono f h⟩
theorem RepG.mono (f : FS H H') (p : Pre φ φ') {a : Addr} (e : H' a = H a) : ∀ {o : GO}, RepG K H φ a o → RepG K H' φ' a o
  | .lst _, ⟨vs, h, g⟩ => ⟨vs, e.trans h, dpAll_mono f _ _ g⟩
  | .dK _, ⟨vs, h, g⟩ => ⟨vs, e.trans h, Paired.mapP g fun _ _ z => ⟨z.1, z.2.mono f p (Pre.refl _)⟩⟩
  | .ins _ _, ⟨dx, vs, h, g⟩ => ⟨dx, vs, e.trans h, Paired.mapP g fun _ _ z => ⟨z.1, z.2.mono f p (Pre.refl _)⟩⟩
  | .dT _, ⟨vs, h, g⟩ => ⟨vs, e.trans h, Paired.mapP g fun _ _ z => ⟨z.1, z.2.mono f p (Pre.refl _)⟩⟩
  | .pen, ⟨kvs, hk, vs, h, g⟩ => ⟨kvs, hk, vs, e.trans h, Paired.mapP g fun _ _ z => ⟨z.1, dp_mono f _ _ z.2⟩⟩
theorem RepL.mono (f : FS H H') {a : Addr} (e : H' a = H a) : ∀ {o : LO}, RepL K H a o → RepL K H' a o
  | .lst _, ⟨vs, h, g⟩ => ⟨vs, e.trans h, dpAll_mono f _ _ g⟩
  | .flst _, ⟨o, vs, h, g⟩ => ⟨o, vs, e.trans h, dpAll_mono f _ _ g⟩
  | .dK _, ⟨vs, h, g⟩ => ⟨vs, e.trans h, Paired.mapP g fun _ _ z => ⟨z.1, dp_mono f _ _ z.2⟩⟩
  | .dT _, ⟨vs, h, g⟩ => ⟨vs, e.trans h, Paired.mapP g fun _ _ z => ⟨z.1, dp_mono f _ _ z.2⟩⟩
  | .ktup _, ⟨o, vs, h, k, g⟩ => ⟨o, vs, e.trans h, k, dpAll_mono f _ _ g⟩
theorem RepG.some {a : Addr} : ∀ {o : GO}, RepG K H φ a o → ∃ u, H a = some u ∧ Fz H a = none
  | .lst _, ⟨vs, h, _⟩ => ⟨_, h, Fz_lst h⟩
  | .dK _, ⟨vs, h, _⟩ => ⟨_, h, Fz_dK h⟩
  | .ins _ _, ⟨dx, vs, h, _⟩ => ⟨_, h, Fz_ins h⟩
  | .dT _, ⟨vs, h, _⟩ => ⟨_, h, Fz_dT h⟩
  | .pen, ⟨_, _, vs, h, _⟩ => ⟨_, h, Fz_dK h⟩
theorem RepL.some {a : Addr} : ∀ {o : LO}, RepL K H a o → ∃ u, H a = some u
  | .lst _, ⟨vs, h, _⟩ => ⟨_, h⟩
  | .flst _, ⟨o, vs, h, _⟩ => ⟨_, h⟩
  | .dK _, ⟨vs, h, _⟩ => ⟨_, h⟩
  | .dT _, ⟨vs, h, _⟩ => ⟨_, h⟩
  | .ktup _, ⟨o, vs, h, _, _⟩ => ⟨_, h⟩
end

/-- the shared objects as they stand -/
structure SimG (K : PySem.W.Frag) (φ : List Addr) (H : Hp) (G : List GO) : Prop where
  len : φ.length = G.length
  nd : φ.Nodup
  at_ : ∀ (n : Nat) a o, φ[n]? = some a → G[n]? = some o → RepG K H φ a o
/-- a frame's state; H0, φ0: the entry -/
structure Sim (K : PySem.W.Frag) (H0 : Hp) (φ0 φ ψ : List Addr) (H : Hp) (s : ST) (σ : L2.St) : Prop where
  g : SimG K φ H s.G
  ll : ψ.length = s.L.length
  nl : ψ.Nodup
  gl : ∀ a, a ∈ φ → a ∉ ψ
  l : ∀ (n : Nat) a o, ψ[n]? = some a → s.L[n]? = some o → RepL K H a o
  sl : s.S.length = σ.length
  s : ∀ (i : Nat) d, s.S[i]? = some (some d) → ∃ v, σ[i]? = some (some v) ∧ RepD K H φ ψ d v
  pre : Pre φ0 φ
  fr : ∀ a, a ∈ ψ → H0 a = none
  new : ∀ a, a ∈ φ → a ∈ φ0 ∨ H0 a = none
  kp : ∀ b o, H0 b = some o → b ∉ φ0 → H b = some o
  old : ∀ a, a ∈ φ0 → ∃ o, H0 a = some o
structure Ext (φ ψ : List Addr) (H : Hp) (φ' ψ' : List Addr) (H' : Hp) : Prop where
  f : FS H H'
  p : Pre φ φ'
  q : Pre ψ ψ'
theorem Ext.refl (φ ψ : List Addr) (H : Hp) : Ext φ ψ H φ ψ H := ⟨Same.refl _, Pre.refl _, Pre.refl _⟩
theorem Ext.trans {φ ψ φ1 ψ1 φ2 ψ2 : List Addr} {H H1 H2 : Hp} (a : Ext φ ψ H φ1 ψ1 H1) (b : Ext φ1 ψ1 H1 φ2 ψ2 H2) : Ext φ ψ H φ2 ψ2 H2 := ⟨a.f.trans b.f, a.p.trans b.p, a.q.trans b.q⟩
theorem RepD.ext {K : PySem.W.Frag} {φ ψ φ' ψ' : List Addr} {H H' : Hp} (e : Ext φ ψ H φ' ψ' H') {d : D} {v : V} (h : RepD K H φ ψ d v) : RepD K H' φ' ψ' d v := h.mono e.f e.p e.q

/-! ### readings -/
section
variable (K : PySem.W.Frag) (W : WX) (H0 : Hp) (φ0 : List Addr)
/-- an exception's way out -/
def OutX (φ ψ : List Addr) (H : Hp) (C : Str) (fs : List (Str × PyData)) (s' : ST) : Prop :=
  ∀ φ' ψ' H' σ' dd vfs, Ext φ ψ H φ' ψ' H' → Sim K H0 φ0 φ' ψ' H' s' σ' → H' dd = some (.xd vfs) → RepF K H' fs vfs → W (.ref (He.ga K C)) (some dd) σ' H'
def OutE (φ ψ : List Addr) (H : Hp) (σ : L2.St) (Q : VK) : Out D → Prop
  | .ok d s' => ∀ φ' ψ' H' v, Ext φ ψ H φ' ψ' H' → Sim K H0 φ0 φ' ψ' H' s' σ → RepD K H' φ' ψ' d v → Q v H'
  | .exc C fs s' => OutX K W H0 φ0 φ ψ H C fs s'
  | .no => False
  | .pick n k => ∀ i, i < n → OutE φ ψ H σ Q (k i)
def OutT (φ ψ : List Addr) (H : Hp) (σ : L2.St) (Q : Bool → Hp → Prop) : Out Bool → Prop
  | .ok d s' => ∀ φ' ψ' H', Ext φ ψ H φ' ψ' H' → Sim K H0 φ0 φ' ψ' H' s' σ → Q d H'
  | .exc C fs s' => OutX K W H0 φ0 φ ψ H C fs s'
  | .no => False
  | .pick n k => ∀ i, i < n → OutT φ ψ H σ Q (k i)
def RepA (H : Hp) (φ ψ : List Addr) (ds : List D) (vs : List V) : Prop := Paired (RepD K H φ ψ) ds vs
def OutA (φ ψ : List Addr) (H : Hp) (σ : L2.St) (Q : List V → Hp → Prop) : Out (List D) → Prop
  | .ok ds s' => ∀ φ' ψ' H' vs, Ext φ ψ H φ' ψ' H' → Sim K H0 φ0 φ' ψ' H' s' σ → RepA K H' φ' ψ' ds vs → Q vs H'
  | .exc C fs s' => OutX K W H0 φ0 φ ψ H C fs s'
  | .no => False
  | .pick n k => ∀ i, i < n → OutA φ ψ H σ Q (k i)
def OutS (φ ψ : List Addr) (H : Hp) (D : Ends) : Out Fl → Prop
  | .ok .nx s' => ∀ φ' ψ' H' σ', Ext φ ψ H φ' ψ' H' → Sim K H0 φ0 φ' ψ' H' s' σ' → D.nx σ' H'
  | .ok .bk s' => ∀ φ' ψ' H' σ', Ext φ ψ H φ' ψ' H' → Sim K H0 φ0 φ' ψ' H' s' σ' → D.bk σ' H'
  | .ok .ct s' => ∀ φ' ψ' H' σ', Ext φ ψ H φ' ψ' H' → Sim K H0 φ0 φ' ψ' H' s' σ' → D.ct σ' H'
  | .ok (.ret d) s' => ∀ φ' ψ' H' σ' v, Ext φ ψ H φ' ψ' H' → Sim K H0 φ0 φ' ψ' H' s' σ' → RepD K H' φ' ψ' d v → D.rt v H'
  | .exc C fs s' => OutX K W H0 φ0 φ ψ H C fs s'
  | .no => False
  | .pick n k => ∀ i, i < n → OutS φ ψ H D (k i)
end
def tE (K : PySem.W.Frag) (W : WX) (f : FE) : TE := fun σ H Q => ∃ H0 φ0 φ ψ s, Sim K H0 φ0 φ ψ H s σ ∧ OutE K W H0 φ0 φ ψ H σ Q (f s)
def tT (K : PySem.W.Frag) (W : WX) (f : FT) : TT := fun σ H Q => ∃ H0 φ0 φ ψ s, Sim K H0 φ0 φ ψ H s σ ∧ OutT K W H0 φ0 φ ψ H σ Q (f s)
def tA (K : PySem.W.Frag) (W : WX) (f : FA) : TA := fun σ H Q => ∃ H0 φ0 φ ψ s, Sim K H0 φ0 φ ψ H s σ ∧ OutA K W H0 φ0 φ ψ H σ Q (f s)
def tS (K : PySem.W.Frag) (W : WX) (f : FSt) : TS := fun D σ H => ∃ H0 φ0 φ ψ s, Sim K H0 φ0 φ ψ H s σ ∧ OutS K W H0 φ0 φ ψ H D (f s)
abbrev PED (X : Cx) (W : WX) (e : Expr) (f : FE) : Prop := PE X e (tE X.K W f)
abbrev PTD (X : Cx) (W : WX) (e : Expr) (f : FT) : Prop := PT X e (tT X.K W f)
abbrev PAD (X : Cx) (W : WX) (es : List Expr) (f : FA) : Prop := PA X es (tA X.K W f)
abbrev PSD (X : Cx) (W : WX) (st : Stmt) (f : FSt) : Prop := PS X st (tS X.K W f)
abbrev PSsD (X : Cx) (W : WX) (st : List Stmt) (f : FSt) : Prop := PSs X st (tS X.K W f)
theorem PE.imp {X : Cx} {e : Expr} {t t' : TE} (h : PE X e t) (k : ∀ σ H Q, t' σ H Q → t σ H Q) : PE X e t' := ⟨fun pins s σ H Q I hw => h.run pins s σ H Q I (k σ H Q hw)⟩
theorem PT.imp {X : Cx} {e : Expr} {t t' : TT} (h : PT X e t) (k : ∀ σ H Q, t' σ H Q → t σ H Q) : PT X e t' := ⟨fun pins s σ H Q I hw => h.run pins s σ H Q I (k σ H Q hw)⟩
theorem PW.imp {X : Cx} {e : Expr} {t t' : TT} (h : PW X e t) (k : ∀ σ H Q, t' σ H Q → t σ H Q) : PW X e t' := ⟨fun wh pins s σ H Q I hw => h.run wh pins s σ H Q I (k σ H Q hw)⟩
theorem PA.imp {X : Cx} {e : List Expr} {t t' : TA} (h : PA X e t) (k : ∀ σ H Q, t' σ H Q → t σ H Q) : PA X e t' := ⟨fun pos pins s σ H Q I hw => h.run pos pins s σ H Q I (k σ H Q hw)⟩
theorem PS.imp {X : Cx} {e : Stmt} {t t' : TS} (h : PS X e t) (k : ∀ D σ H, t' D σ H → t D σ H) : PS X e t' := ⟨fun pins s σ H D I hw => h.run pins s σ H D I (k D σ H hw)⟩
theorem PSs.imp {X : Cx} {e : List Stmt} {t t' : TS} (h : PSs X e t) (k : ∀ D σ H, t' D σ H → t D σ H) : PSs X e t' := ⟨fun pins s σ H D I hw => h.run pins s σ H D I (k D σ H hw)⟩

/-! ### one thing after the other -/
section
variable {K : PySem.W.Frag} {W : WX} {H0 : Hp} {φ0 φ ψ φ1 ψ1 : List Addr} {H H1 : Hp} {σ : L2.St}
theorem OutX.ext (x : Ext φ ψ H φ1 ψ1 H1) {C : Str} {fs : List (Str × PyData)} {s' : ST} (h : OutX K W H0 φ0 φ ψ H C fs s') : OutX K W H0 φ0 φ1 ψ1 H1 C fs s' :=
  fun φ' ψ' H' σ' dd vfs e => h φ' ψ' H' σ' dd vfs (x.trans e)
theorem OutE.ext (x : Ext φ ψ H φ1 ψ1 H1) {Q : VK} : ∀ {o : Out D}, OutE K W H0 φ0 φ ψ H σ Q o → OutE K W H0 φ0 φ1 ψ1 H1 σ Q o
  | .ok d s', h => fun φ' ψ' H' v e => h φ' ψ' H' v (x.trans e)
  | .exc _ _ _, h => OutX.ext x h
  | .no, h => h
  | .pick n k, h => fun i hi => OutE.ext x (h i hi)
theorem OutT.ext (x : Ext φ ψ H φ1 ψ1 H1) {Q : Bool → Hp → Prop} : ∀ {o : Out Bool}, OutT K W H0 φ0 φ ψ H σ Q o → OutT K W H0 φ0 φ1 ψ1 H1 σ Q o
  | .ok d s', h => fun φ' ψ' H' e => h φ' ψ' H' (x.trans e)
  | .exc _ _ _, h => OutX.ext x h
  | .no, h => h
  | .pick n k, h => fun i hi => OutT.ext x (h i hi)
theorem OutA.ext (x : Ext φ ψ H φ1 ψ1 H1) {Q : List V → Hp → Prop} : ∀ {o : Out (List D)}, OutA K W H0 φ0 φ ψ H σ Q o → OutA K W H0 φ0 φ1 ψ1 H1 σ Q o
  | .ok d s', h => fun φ' ψ' H' vs e => h φ' ψ' H' vs (x.trans e)
  | .exc _ _ _, h => OutX.ext x h
  | .no, h => h
  | .pick n k, h => fun i hi => OutA.ext x (h i hi)
theorem OutS.ext (x : Ext φ ψ H φ1 ψ1 H1) {Q : Ends} : ∀ {o : Out Fl}, OutS K W H0 φ0 φ ψ H Q o → OutS K W H0 φ0 φ1 ψ1 H1 Q o
  | .ok .nx _, h => fun φ' ψ' H' σ' e => h φ' ψ' H' σ' (x.trans e)
  | .ok .bk _, h => fun φ' ψ' H' σ' e => h φ' ψ' H' σ' (x.trans e)
  | .ok .ct _, h => fun φ' ψ' H' σ' e => h φ' ψ' H' σ' (x.trans e)
  | .ok (.ret _) _, h => fun φ' ψ' H' σ' v e => h φ' ψ' H' σ' v (x.trans e)
  | .exc _ _ _, h => OutX.ext x h
  | .no, h => h
  | .pick n k, h => fun i hi => OutS.ext x (h i hi)
theorem OutE.bE' {g : D → ST → Out D} {Q : VK} {R : VK}
    (hq : ∀ d s' φ' ψ' H' v, Ext φ ψ H φ' ψ' H' → Sim K H0 φ0 φ' ψ' H' s' σ → RepD K H' φ' ψ' d v → OutE K W H0 φ0 φ' ψ' H' σ Q (g d s') → R v H') : ∀ {o : Out D}, OutE K W H0 φ0 φ ψ H σ Q (o.bind g) → OutE K W H0 φ0 φ ψ H σ R o
  | .ok d s', h => fun φ' ψ' H' v x S r => hq d s' φ' ψ' H' v x S r (OutE.ext x h)
  | .exc _ _ _, h => h
  | .no, h => h
  | .pick n f, h => fun i hi => OutE.bE' hq (o := f i) (h i hi)
theorem OutT.bE' {g : D → ST → Out Bool} {Q : Bool → Hp → Prop} {R : VK}
    (hq : ∀ d s' φ' ψ' H' v, Ext φ ψ H φ' ψ' H' → Sim K H0 φ0 φ' ψ' H' s' σ → RepD K H' φ' ψ' d v → OutT K W H0 φ0 φ' ψ' H' σ Q (g d s') → R v H') : ∀ {o : Out D}, OutT K W H0 φ0 φ ψ H σ Q (o.bind g) → OutE K W H0 φ0 φ ψ H σ R o
  | .ok d s', h => fun φ' ψ' H' v x S r => hq d s' φ' ψ' H' v x S r (OutT.ext x h)
  | .exc _ _ _, h => h
  | .no, h => h
  | .pick n f, h => fun i hi => OutT.bE' hq (o := f i) (h i hi)
theorem OutA.bE' {g : D → ST → Out (List D)} {Q : List V → Hp → Prop} {R : VK}
    (hq : ∀ d s' φ' ψ' H' v, Ext φ ψ H φ' ψ' H' → Sim K H0 φ0 φ' ψ' H' s' σ → RepD K H' φ' ψ' d v → OutA K W H0 φ0 φ' ψ' H' σ Q (g d s') → R v H') : ∀ {o : Out D}, OutA K W H0 φ0 φ ψ H σ Q (o.bind g) → OutE K W H0 φ0 φ ψ H σ R o
  | .ok d s', h => fun φ' ψ' H' v x S r => hq d s' φ' ψ' H' v x S r (OutA.ext x h)
  | .exc _ _ _, h => h
  | .no, h => h
  | .pick n f, h => fun i hi => OutA.bE' hq (o := f i) (h i hi)
theorem OutS.bE' {g : D → ST → Out Fl} {Q : Ends} {R : VK}
    (hq : ∀ d s' φ' ψ' H' v, Ext φ ψ H φ' ψ' H' → Sim K H0 φ0 φ' ψ' H' s' σ → RepD K H' φ' ψ' d v → OutS K W H0 φ0 φ' ψ' H' Q (g d s') → R v H') : ∀ {o : Out D}, OutS K W H0 φ0 φ ψ H Q (o.bind g) → OutE K W H0 φ0 φ ψ H σ R o
  | .ok d s', h => fun φ' ψ' H' v x S r => hq d s' φ' ψ' H' v x S r (OutS.ext x h)
  | .exc _ _ _, h => h
  | .no, h => h
  | .pick n f, h => fun i hi => OutS.bE' hq (o := f i) (h i hi)
theorem OutE.bT' {g : Bool → ST → Out D} {Q : VK} {R : Bool → Hp → Prop}
    (hq : ∀ d s' φ' ψ' H', Ext φ ψ H φ' ψ' H' → Sim K H0 φ0 φ' ψ' H' s' σ → OutE K W H0 φ0 φ' ψ' H' σ Q (g d s') → R d H') : ∀ {o : Out Bool}, OutE K W H0 φ0 φ ψ H σ Q (o.bind g) → OutT K W H0 φ0 φ ψ H σ R o
  | .ok d s', h => fun φ' ψ' H' x S => hq d s' φ' ψ' H' x S (OutE.ext x h)
  | .exc _ _ _, h => h
  | .no, h => h
  | .pick n f, h => fun i hi => OutE.bT' hq (o := f i) (h i hi)
theorem OutT.bT' {g : Bool → ST → Out Bool} {Q : Bool → Hp → Prop} {R : Bool → Hp → Prop}
    (hq : ∀ d s' φ' ψ' H', Ext φ ψ H φ' ψ' H' → Sim K H0 φ0 φ' ψ' H' s' σ → OutT K W H0 φ0 φ' ψ' H' σ Q (g d s') → R d H') : ∀ {o : Out Bool}, OutT K W H0 φ0 φ ψ H σ Q (o.bind g) → OutT K W H0 φ0 φ ψ H σ R o
  | .ok d s', h => fun φ' ψ' H' x S => hq d s' φ' ψ' H' x S (OutT.ext x h)
  | .exc _ _ _, h => h
  | .no, h => h
  | .pick n f, h => fun i hi => OutT.bT' hq (o := f i) (h i hi)
theorem OutA.bT' {g : Bool → ST → Out (List D)} {Q : List V → Hp → Prop} {R : Bool → Hp → Prop}
    (hq : ∀ d s' φ' ψ' H', Ext φ ψ H φ' ψ' H' → Sim K H0 φ0 φ' ψ' H' s' σ → OutA K W H0 φ0 φ' ψ' H' σ Q (g d s') → R d H') : ∀ {o : Out Bool}, OutA K W H0 φ0 φ ψ H σ Q (o.bind g) → OutT K W H0 φ0 φ ψ H σ R o
  | .ok d s', h => fun φ' ψ' H' x S => hq d s' φ' ψ' H' x S (OutA.ext x h)
  | .exc _ _ _, h => h
  | .no, h => h
  | .pick n f, h => fun i hi => OutA.bT' hq (o := f i) (h i hi)
theorem OutS.bT' {g : Bool → ST → Out Fl} {Q : Ends} {R : Bool → Hp → Prop}
    (hq : ∀ d s' φ' ψ' H', Ext φ ψ H φ' ψ' H' → Sim K H0 φ0 φ' ψ' H' s' σ → OutS K W H0 φ0 φ' ψ' H' Q (g d s') → R d H') : ∀ {o : Out Bool}, OutS K W H0 φ0 φ ψ H Q (o.bind g) → OutT K W H0 φ0 φ ψ H σ R o
  | .ok d s', h => fun φ' ψ' H' x S => hq d s' φ' ψ' H' x S (OutS.ext x h)
  | .exc _ _ _, h => h
  | .no, h => h
  | .pick n f, h => fun i hi => OutS.bT' hq (o := f i) (h i hi)
theorem OutE.bA' {g : List D → ST → Out D} {Q : VK} {R : List V → Hp → Prop}
    (hq : ∀ d s' φ' ψ' H' v, Ext φ ψ H φ' ψ' H' → Sim K H0 φ0 φ' ψ' H' s' σ → RepA K H' φ' ψ' d v → OutE K W H0 φ0 φ' ψ' H' σ Q (g d s') → R v H') : ∀ {o : Out (List D)}, OutE K W H0 φ0 φ ψ H σ Q (o.bind g) → OutA K W H0 φ0 φ ψ H σ R o
  | .ok d s', h => fun φ' ψ' H' v x S r => hq d s' φ' ψ' H' v x S r (OutE.ext x h)
  | .exc _ _ _, h => h
  | .no, h => h
  | .pick n f, h => fun i hi => OutE.bA' hq (o := f i) (h i hi)
theorem OutT.bA' {g : List D → ST → Out Bool} {Q : Bool → Hp → Prop} {R : List V → Hp → Prop}
    (hq : ∀ d s' φ' ψ' H' v, Ext φ ψ H φ' ψ' H' → Sim K H0 φ0 φ' ψ' H' s' σ → RepA K H' φ' ψ' d v → OutT K W H0 φ0 φ' ψ' H' σ Q (g d s') → R v H') : ∀ {o : Out (List D)}, OutT K W H0 φ0 φ ψ H σ Q (o.bind g) → OutA K W H0 φ0 φ ψ H σ R o
  | .ok d s', h => fun φ' ψ' H' v x S r => hq d s' φ' ψ' H' v x S r (OutT.ext x h)
  | .exc _ _ _, h => h
  | .no, h => h
  | .pick n f, h => fun i hi => OutT.bA' hq (o := f i) (h i hi)
theorem OutA.bA' {g : List D → ST → Out (List D)} {Q : List V → Hp → Prop} {R : List V → Hp → Prop}
    (hq : ∀ d s' φ' ψ' H' v, Ext φ ψ H φ' ψ' H' → Sim K H0 φ0 φ' ψ' H' s' σ → RepA K H' φ' ψ' d v → OutA K W H0 φ0 φ' ψ' H' σ Q (g d s') → R v H') : ∀ {o : Out (List D)}, OutA K W H0 φ0 φ ψ H σ Q (o.bind g) → OutA K W H0 φ0 φ ψ H σ R o
  | .ok d s', h => fun φ' ψ' H' v x S r => hq d s' φ' ψ' H' v x S r (OutA.ext x h)
  | .exc _ _ _, h => h
  | .no, h => h
  | .pick n f, h => fun i hi => OutA.bA' hq (o := f i) (h i hi)
theorem OutS.bA' {g : List D → ST → Out Fl} {Q : Ends} {R : List V → Hp → Prop}
    (hq : ∀ d s' φ' ψ' H' v, Ext φ ψ H φ' ψ' H' → Sim K H0 φ0 φ' ψ' H' s' σ → RepA K H' φ' ψ' d v → OutS K W H0 φ0 φ' ψ' H' Q (g d s') → R v H') : ∀ {o : Out (List D)}, OutS K W H0 φ0 φ ψ H Q (o.bind g) → OutA K W H0 φ0 φ ψ H σ R o
  | .ok d s', h => fun φ' ψ' H' v x S r => hq d s' φ' ψ' H' v x S r (OutS.ext x h)
  | .exc _ _ _, h => h
  | .no, h => h
  | .pick n f, h => fun i hi => OutS.bA' hq (o := f i) (h i hi)
theorem OutE.bE {o : Out D} {g : D → ST → Out D} {Q : VK} {R : VK} (h : OutE K W H0 φ0 φ ψ H σ Q (o.bind g))
    (hq : ∀ d s' φ' ψ' H' v, Ext φ ψ H φ' ψ' H' → Sim K H0 φ0 φ' ψ' H' s' σ → RepD K H' φ' ψ' d v → OutE K W H0 φ0 φ' ψ' H' σ Q (g d s') → R v H') : OutE K W H0 φ0 φ ψ H σ R o := OutE.bE' hq h
theorem OutT.bE {o : Out D} {g : D → ST → Out Bool} {Q : Bool → Hp → Prop} {R : VK} (h : OutT K W H0 φ0 φ ψ H σ Q (o.bind g))
    (hq : ∀ d s' φ' ψ' H' v, Ext φ ψ H φ' ψ' H' → Sim K H0 φ0 φ' ψ' H' s' σ → RepD K H' φ' ψ' d v → OutT K W H0 φ0 φ' ψ' H' σ Q (g d s') → R v H') : OutE K W H0 φ0 φ ψ H σ R o := OutT.bE' hq h
theorem OutA.bE {o : Out D} {g : D → ST → Out (List D)} {Q : List V → Hp → Prop} {R : VK} (h : OutA K W H0 φ0 φ ψ H σ Q (o.bind g))
    (hq : ∀ d s' φ' ψ' H' v, Ext φ ψ H φ' ψ' H' → Sim K H0 φ0 φ' ψ' H' s' σ → RepD K H' φ' ψ' d v → OutA K W H0 φ0 φ' ψ' H' σ Q (g d s') → R v H') : OutE K W H0 φ0 φ ψ H σ R o := OutA.bE' hq h
theorem OutS.bE {o : Out D} {g : D → ST → Out Fl} {Q : Ends} {R : VK} (h : OutS K W H0 φ0 φ ψ H Q (o.bind g))
    (hq : ∀ d s' φ' ψ' H' v, Ext φ ψ H φ' ψ' H' → Sim K H0 φ0 φ' ψ' H' s' σ → RepD K H' φ' ψ' d v → OutS K W H0 φ0 φ' ψ' H' Q (g d s') → R v H') : OutE K W H0 φ0 φ ψ H σ R o := OutS.bE' hq h
theorem OutE.bT {o : Out Bool} {g : Bool → ST → Out D} {Q : VK} {R : Bool → Hp → Prop} (h : OutE K W H0 φ0 φ ψ H σ Q (o.bind g))
    (hq : ∀ d s' φ' ψ' H', Ext φ ψ H φ' ψ' H' → Sim K H0 φ0 φ' ψ' H' s' σ → OutE K W H0 φ0 φ' ψ' H' σ Q (g d s') → R d H') : OutT K W H0 φ0 φ ψ H σ R o := OutE.bT' hq h
theorem OutT.bT {o : Out Bool} {g : Bool → ST → Out Bool} {Q : Bool → Hp → Prop} {R : Bool → Hp → Prop} (h : OutT K W H0 φ0 φ ψ H σ Q (o.bind g))
    (hq : ∀ d s' φ' ψ' H', Ext φ ψ H φ' ψ' H' → Sim K H0 φ0 φ' ψ' H' s' σ → OutT K W H0 φ0 φ' ψ' H' σ Q (g d s') → R d H') : OutT K W H0 φ0 φ ψ H σ R o := OutT.bT' hq h
theorem OutA.bT {o : Out Bool} {g : Bool → ST → Out (List D)} {Q : List V → Hp → Prop} {R : Bool → Hp → Prop} (h : OutA K W H0 φ0 φ ψ H σ Q (o.bind g))
    (hq : ∀ d s' φ' ψ' H', Ext φ ψ H φ' ψ' H' → Sim K H0 φ0 φ' ψ' H' s' σ → OutA K W H0 φ0 φ' ψ' H' σ Q (g d s') → R d H') : OutT K W H0 φ0 φ ψ H σ R o := OutA.bT' hq h
theorem OutS.bT {o : Out Bool} {g : Bool → ST → Out Fl} {Q : Ends} {R : Bool → Hp → Prop} (h : OutS K W H0 φ0 φ ψ H Q (o.bind g))
    (hq : ∀ d s' φ' ψ' H', Ext φ ψ H φ' ψ' H' → Sim K H0 φ0 φ' ψ' H' s' σ → OutS K W H0 φ0 φ' ψ' H' Q (g d s') → R d H') : OutT K W H0 φ0 φ ψ H σ R o := OutS.bT' hq h
theorem OutE.bA {o : Out (List D)} {g : List D → ST → Out D} {Q : VK} {R : List V → Hp → Prop} (h : OutE K W H0 φ0 φ ψ H σ Q (o.bind g))
    (hq : ∀ d s' φ' ψ' H' v, Ext φ ψ H φ' ψ' H' → Sim K H0 φ0 φ' ψ' H' s' σ → RepA K H' φ' ψ' d v → OutE K W H0 φ0 φ' ψ' H' σ Q (g d s') → R v H') : OutA K W H0 φ0 φ ψ H σ R o := OutE.bA' hq h
theorem OutT.bA {o : Out (List D)} {g : List D → ST → Out Bool} {Q : Bool → Hp → Prop} {R : List V → Hp → Prop} (h : OutT K W H0 φ0 φ ψ H σ Q (o.bind g))
    (hq : ∀ d s' φ' ψ' H' v, Ext φ ψ H φ' ψ' H' → Sim K H0 φ0 φ' ψ' H' s' σ → RepA K H' φ' ψ' d v → OutT K W H0 φ0 φ' ψ' H' σ Q (g d s') → R v H') : OutA K W H0 φ0 φ ψ H σ R o := OutT.bA' hq h
theorem OutA.bA {o : Out (List D)} {g : List D → ST → Out (List D)} {Q : List V → Hp → Prop} {R : List V → Hp → Prop} (h : OutA K W H0 φ0 φ ψ H σ Q (o.bind g))
    (hq : ∀ d s' φ' ψ' H' v, Ext φ ψ H φ' ψ' H' → Sim K H0 φ0 φ' ψ' H' s' σ → RepA K H' φ' ψ' d v → OutA K W H0 φ0 φ' ψ' H' σ Q (g d s') → R v H') : OutA K W H0 φ0 φ ψ H σ R o := OutA.bA' hq h
theorem OutS.bA {o : Out (List D)} {g : List D → ST → Out Fl} {Q : Ends} {R : List V → Hp → Prop} (h : OutS K W H0 φ0 φ ψ H Q (o.bind g))
    (hq : ∀ d s' φ' ψ' H' v, Ext φ ψ H φ' ψ' H' → Sim K H0 φ0 φ' ψ' H' s' σ → RepA K H' φ' ψ' d v → OutS K W H0 φ0 φ' ψ' H' Q (g d s') → R v H') : OutA K W H0 φ0 φ ψ H σ R o := OutS.bA' hq h
end
end DL

set_option Elab.async false
set_option linter.all false
set_option maxRecDepth 100000
set_option maxHeartbeats 2000000
namespace DL
open PySem PySem.Spec PyProof.Rows L2

/-! ### a value as it may be read: a list may be one of the frame's own -/
def DpT (K : PySem.W.Frag) (H : Hp) (v : V) : PyData → Prop
  | .list ds => ∃ a vs, v = .ref a ∧ SqL K H a vs ∧ DpAll [] (Fz H) vs ds
  | p => Dp [] (Fz H) v p
theorem DpT.of {K : PySem.W.Frag} {H : Hp} {v : V} {p : PyData} (h : Dp [] (Fz H) v p) : DpT K H v p := by
  cases h with
  | lst hs ha => exact ⟨_, _, rfl, sqL_up hs, ha⟩
  | non => exact .non
  | bl b => exact .bl b
  | int i => exact .int i
  | str x => exact .str x
  | tup hs ha => exact .tup hs ha
theorem DpT.dp {K : PySem.W.Frag} {H : Hp} {v : V} : ∀ {p : PyData}, DpT K H v p → Dp K H v p
  | .list ds, ⟨a, vs, e, hs, ha⟩ => by subst e; exact .lst hs (dpAll_up _ _ ha)
  | .none, h => dp_up _ _ h
  | .bool _, h => dp_up _ _ h
  | .int _, h => dp_up _ _ h
  | .str _, h => dp_up _ _ h
  | .tuple _, h => dp_up _ _ h
  | .dict _, h => dp_up _ _ h
theorem DpT.int {K : PySem.W.Frag} {H : Hp} {v : V} {i : Int} (h : DpT K H v (.int i)) : v = .int i := by
  have h' : Dp [] (Fz H) v (.int i) := h
  cases h'; rfl
theorem DpT.bl {K : PySem.W.Frag} {H : Hp} {v : V} {i : Bool} (h : DpT K H v (.bool i)) : v = .bl i := by
  have h' : Dp [] (Fz H) v (.bool i) := h
  cases h'; rfl
theorem DpT.str {K : PySem.W.Frag} {H : Hp} {v : V} {i : Str} (h : DpT K H v (.str i)) : v = .str i := by
  have h' : Dp [] (Fz H) v (.str i) := h
  cases h'; rfl
theorem DpT.non {K : PySem.W.Frag} {H : Hp} {v : V} (h : DpT K H v .none) : v = .non := by
  have h' : Dp [] (Fz H) v .none := h
  cases h'; rfl
theorem DpT.tup {K : PySem.W.Frag} {H : Hp} {v : V} {ds : List PyData} (h : DpT K H v (.tuple ds)) : ∃ a vs, v = .ref a ∧ SqT [] (Fz H) a vs ∧ DpAll [] (Fz H) vs ds := by
  have h' : Dp [] (Fz H) v (.tuple ds) := h
  cases h' with
  | tup hs ha => exact ⟨_, _, rfl, hs, ha⟩
theorem DpT.isNone {K : PySem.W.Frag} {H : Hp} {v : V} {p : PyData} (h : DpT K H v p) : decide (v = .non) = (match p with | .none => true | _ => false) := by
  have h' := h.dp
  cases h' <;> simp

/-- what may be read of a value -/
def rd (s : ST) : D → Option PyData
  | .py p => some p
  | .loc n => match s.L[n]? with
    | some (.lst ds) => some (.list ds)
    | some (.flst ds) => some (.list ds)
    | some (.ktup ds) => some (.tuple ds)
    | _ => none
  | .obj n => match s.G[n]? with
    | some (.lst ds) => some (.list ds)
    | _ => none
  | .glob _ => none
  | .scr ns => some (.list (ns.map .int))
theorem get_of_len {α β : Type} {l : List α} {m : List β} (e : l.length = m.length) {n : Nat} {b : β} (h : m[n]? = some b) : ∃ a, l[n]? = some a := by
  have hn : n < l.length := by
    have := (List.getElem?_eq_some_iff.mp h).1
    omega
  exact ⟨l[n], List.getElem?_eq_getElem hn⟩
theorem dp_ints {K : PySem.W.Frag} {H : Hp} : ∀ ns : List Int, DpAll K H (ns.map V.int) (ns.map .int)
  | [] => .nil
  | n :: ns => .cons (.int n) (dp_ints ns)
theorem rd_ok {K : PySem.W.Frag} {H0 H : Hp} {φ0 φ ψ : List Addr} {s : ST} {σ : L2.St} (S : Sim K H0 φ0 φ ψ H s σ) {d : D} {v : V} (r : RepD K H φ ψ d v) {p : PyData} (e : rd s d = some p) : DpT K H v p := by
  cases d with
  | py q => cases e; exact DpT.of r
  | glob x => cases e
  | scr ns =>
    cases e
    obtain ⟨a, rfl, h⟩ := r
    exact ⟨a, _, rfl, sqL_mono (Fz_same H) h, dp_ints ns⟩
  | loc n =>
    obtain ⟨a, ha, rfl⟩ := r
    dsimp only [rd] at e
    cases q : s.L[n]? with
    | none => rw [q] at e; cases e
    | some o =>
      have ho := S.l n a o ha q
      rw [q] at e
      cases o with
      | lst ds => cases e; obtain ⟨vs, h1, h2⟩ := ho; exact ⟨a, vs, rfl, SqL.of h1, h2⟩
      | flst ds => cases e; obtain ⟨ob, vs, h1, h2⟩ := ho; exact ⟨a, vs, rfl, .inl (.inr ⟨ob, h1⟩), h2⟩
      | dK _ => cases e
      | dT _ => cases e
      | ktup ds => cases e; obtain ⟨ob, vs, h1, ⟨_, hf⟩, h2⟩ := ho; exact DpT.of (.tup (.inl (.inr ⟨ob, Fz_ktup h1 hf⟩)) h2)
  | obj n =>
    obtain ⟨a, ha, rfl⟩ := r
    dsimp only [rd] at e
    cases q : s.G[n]? with
    | none => rw [q] at e; cases e
    | some o =>
      have ho := S.g.at_ n a o ha q
      rw [q] at e
      cases o with
      | lst ds => cases e; obtain ⟨vs, h1, h2⟩ := ho; exact ⟨a, vs, rfl, SqL.of h1, h2⟩
      | dK _ => cases e
      | ins _ _ => cases e
      | dT _ => cases e
      | pen => cases e

/-! ### the state when the heap grows -/
theorem Sim.grow {K : PySem.W.Frag} {H0 H H' : Hp} {φ0 φ ψ : List Addr} {s : ST} {σ : L2.St} (S : Sim K H0 φ0 φ ψ H s σ) (e : Same H H') : Sim K H0 φ0 φ ψ H' s σ where
  g := ⟨S.g.len, S.g.nd, fun n a o h1 h2 => by
    have r := S.g.at_ n a o h1 h2
    obtain ⟨u, hu, _⟩ := r.some
    exact r.mono (FS.same e) (Pre.refl _) ((e a u hu).trans hu.symm)⟩
  ll := S.ll
  nl := S.nl
  gl := S.gl
  l := fun n a o h1 h2 => by
    have r := S.l n a o h1 h2
    obtain ⟨u, hu⟩ := r.some
    exact r.mono (FS.same e) ((e a u hu).trans hu.symm)
  sl := S.sl
  s := fun i d h => let ⟨v, h1, h2⟩ := S.s i d h; ⟨v, h1, h2.mono (FS.same e) (Pre.refl _) (Pre.refl _)⟩
  pre := S.pre
  fr := S.fr
  new := S.new
  kp := fun b o h hb => e b o (S.kp b o h hb)
  old := S.old
theorem Ext.grow {φ ψ : List Addr} {H H' : Hp} (e : Same H H') : Ext φ ψ H φ ψ H' := ⟨FS.same e, Pre.refl _, Pre.refl _⟩
theorem grow_new {H : Hp} {p : Addr} {o : HO} (h : H p = none) : Same H (upd H p o) := fun b u e => by rw [upd_ne (ne_of_none e h)]; exact e

/-! ### operators on data -/
/-- the answer r, as new data -/
def Res (K : PySem.W.Frag) (H : Hp) (r : PyData) (Q : VK) : Prop := ∀ w H', Same H H' → Dp [] (Fz H') w r → Q w H'
def OpD (X : Cx) (f : Value → Value → Sem Value) (g : PyData → PyData → Option PyData) : Prop :=
  OpR X f (fun x y H Q => ∃ p q r, DpT X.K H x p ∧ DpT X.K H y q ∧ g p q = some r ∧ Res X.K H r Q)
section
variable {X : Cx} {pins : List (Addr × Obj)} {σ : L2.St} {H : Hp} {s : Shared} {Q : VK}
/-- a new list, let go as data -/
theorem new_list (I : Inv X pins σ H s) {its : List Value} {vs : List V} {ds : List PyData} {t : Nat} (hv : Vals vs its) (hz : vs.length ≤ sizeLine) (ha : DpAll [] (Fz H) vs ds) (q : Res X.K H (.list ds) Q) :
    EP X pins σ Q (.ref s.heap.objs.size) { s with heap := s.heap.push { cls := .type "list", data := .seq its.toArray }, toks := t } := by
  have J := L2.Inv.lnew (t' := t) I hv hz
  have hn : H s.heap.objs.size = none := Inv.fresh I
  obtain ⟨od, J'⟩ := Inv.lock J upd_same trivial
  rw [upd_upd] at J'
  have g : Same H (upd H s.heap.objs.size (.frz od (.lst vs))) := grow_new hn
  exact ⟨.ref _, _, J', rfl, q _ _ g (.lst (.inl (.inr ⟨od, Fz_frz upd_same⟩)) (dpAll_mono (FS.same g) _ _ ha))⟩
theorem new_tup (I : Inv X pins σ H s) {its : List Value} {vs : List V} {ds : List PyData} {t : Nat} (hv : Vals vs its) (hz : vs.length ≤ sizeLine) (ha : DpAll [] (Fz H) vs ds) (q : Res X.K H (.tuple ds) Q) :
    EP X pins σ Q (.ref s.heap.objs.size) { s with heap := s.heap.push { cls := .type "tuple", data := .seq its.toArray }, toks := t } := by
  have hn : H s.heap.objs.size = none := I.hok.fresh (Nat.le_refl _)
  have g : Same H (upd H s.heap.objs.size (.tup vs)) := grow_new hn
  refine ⟨.ref _, _, I.laid (t' := t) (o := .tup vs) (fun b ob q => Heap.get?_push_of_some _ q) (Nat.le_refl _) ⟨hz, _, hv, IsTup.new _ _⟩, rfl, q _ _ g (.tup (.inl (.inl (Fz_tup upd_same))) (dpAll_mono (FS.same g) _ _ ha))⟩
theorem res_int (I : Inv X pins σ H s) {i : Int} {t : Tok} (q : Res X.K H (.int i) Q) : EP X pins σ Q (.int i t) s := ⟨.int i, H, I, ⟨_, rfl⟩, q _ _ (Same.refl _) (.int i)⟩
theorem res_bool (I : Inv X pins σ H s) {b : Bool} (q : Res X.K H (.bool b) Q) : EP X pins σ Q (.bool b) s := ⟨.bl b, H, I, rfl, q _ _ (Same.refl _) (.bl b)⟩
theorem res_str (I : Inv X pins σ H s) {b : Str} {t : Tok} (q : Res X.K H (.str b) Q) : EP X pins σ Q (.str b t) s := ⟨.str b, H, I, ⟨_, rfl⟩, q _ _ (Same.refl _) (.str b)⟩
/-- what a list is in the heap -/
theorem list_obj (I : Inv X pins σ H s) {a : Addr} {vs : List V} (h : SqL X.K H a vs) : ∃ (its : List Value) (dd : Option Addr) (n : Nat) (sl : Array (Option Value)), Vals vs its ∧ vs.length ≤ sizeLine ∧ s.heap.get? a = some ⟨.type "list", dd, .seq its.toArray n, sl⟩ := by
  obtain ⟨its, r, ⟨o, n, e, h1, h2, h3⟩, z⟩ := I.list h
  obtain ⟨oc, od, dt, osl⟩ := o
  cases h1; cases h3
  exact ⟨its, od, n, osl, r, z, e⟩
theorem tup_obj (I : Inv X pins σ H s) {a : Addr} {vs : List V} (h : SqT X.K H a vs) : ∃ (its : List Value), Vals vs its ∧ vs.length ≤ sizeLine ∧ IsTup s.heap a its.toArray := by
  obtain ⟨its, r, p, z⟩ := I.tuple h
  exact ⟨its, r, z, p⟩
end
section
variable {X : Cx}
theorem OpR.ror {f : Value → Value → Sem Value} {r r' r'' : R2} (h : OpR X f r) (h' : OpR X f r') (k : ∀ x y H Q, r'' x y H Q → r x y H Q ∨ r' x y H Q) : OpR X f r'' :=
  fun pins s σ H x y v u Q I rx ry q => (k x y H Q q).elim (h pins s σ H x y v u Q I rx ry) (h' pins s σ H x y v u Q I rx ry)

/-! addition -/
def gAdd : PyData → PyData → Option PyData
  | .int i, .int j => some (.int (i + j))
  | .str a, .str b => if a.length + b.length ≤ sizeLine then some (.str (a ++ b)) else none
  | .tuple xs, .tuple ys => if xs.length + ys.length ≤ sizeLine then some (.tuple (xs ++ ys)) else none
  | .list xs, .list ys => if xs.length + ys.length ≤ sizeLine then some (.list (xs ++ ys)) else none
  | _, _ => none
theorem cat_lists {pins : List (Addr × Obj)} {s : Shared} {σ : L2.St} {H : Hp} {Q : VK} {a b : Addr} {vs us : List V} {xs ys : List PyData} (I : Inv X pins σ H s) (ha : SqL X.K H a vs) (hb : SqL X.K H b us) (da : DpAll [] (Fz H) vs xs) (db : DpAll [] (Fz H) us ys)
    (hz : xs.length + ys.length ≤ sizeLine) (q : Res X.K H (.list (xs ++ ys)) Q) : wpAny (model X.prog X.w) X.A (binaryOp .Add (.ref a) (.ref b)) (EP X pins σ Q) X.xe s := by
  obtain ⟨its, dd, n, sl, r, z, e⟩ := list_obj I ha
  obtain ⟨its2, dd2, n2, sl2, r2, z2, e2⟩ := list_obj I hb
  have l1 := r.length; have l2 := r2.length
  have l3 := dpAll_len da; have l4 := dpAll_len db
  have ea : its.toArray ++ its2.toArray = (its ++ its2).toArray := by simp
  refine concat_meets ⟨_, e, rfl⟩ ⟨_, e2, rfl⟩ noFill_list_add seq_list_add PySem.F.slot_list_add PySem.F.entry_list_add (PySem.F.args_list_add_2 _ _)
    (PyProof.Rows.list_addW a b its.toArray its2.toArray n n2 dd dd2 sl sl2 (by rw [List.size_toArray, List.size_toArray]; omega)) ⟨e, e2, ?_⟩
  rw [ea]
  exact new_list I (r.append r2) (by rw [List.length_append]; omega) (dpAll_append da db) q
theorem cat_tups {pins : List (Addr × Obj)} {s : Shared} {σ : L2.St} {H : Hp} {Q : VK} {a b : Addr} {vs us : List V} {xs ys : List PyData} (I : Inv X pins σ H s) (ha : SqT [] (Fz H) a vs) (hb : SqT [] (Fz H) b us) (da : DpAll [] (Fz H) vs xs) (db : DpAll [] (Fz H) us ys)
    (hz : xs.length + ys.length ≤ sizeLine) (q : Res X.K H (.tuple (xs ++ ys)) Q) : wpAny (model X.prog X.w) X.A (binaryOp .Add (.ref a) (.ref b)) (EP X pins σ Q) X.xe s := by
  obtain ⟨its, r, z, p⟩ := tup_obj I (sqT_up ha)
  obtain ⟨its2, r2, z2, p2⟩ := tup_obj I (sqT_up hb)
  have l1 := r.length; have l2 := r2.length
  have l3 := dpAll_len da; have l4 := dpAll_len db
  by_cases hv : its = []
  · subst hv
    have e1 : vs = [] := r.nil_iff.mp rfl
    subst e1
    have e2 : xs = [] := by cases da; rfl
    subst e2
    obtain ⟨⟨cls, dd, data, sl⟩, ho, hc, n, hd⟩ := id p
    obtain ⟨⟨cls2, dd2, data2, sl2⟩, ho2, hc2, n2, hd2⟩ := id p2
    simp only at hc hd hc2 hd2
    subst hc hd hc2 hd2
    exact concat_meets ⟨_, ho, rfl⟩ ⟨_, ho2, rfl⟩ noFill_tuple_add seq_tuple_add PySem.F.slot_tuple_add PySem.F.entry_tuple_add (PySem.F.args_tuple_add_2 _ _)
      (PyProof.Rows.tuple_addW0 a b _ _ n n2 dd dd2 sl sl2 rfl) ⟨ho, ho2, ⟨.ref b, H, I, rfl, q _ _ (Same.refl _) (.tup hb db)⟩⟩
  · refine HT.cat_tup p p2 hv (fun z => ?_) (fun z => ?_) (by omega)
    · have e2 : us = [] := r2.nil_iff.mp z
      subst e2
      have e3 : ys = [] := by cases db; rfl
      subst e3
      rw [List.append_nil] at q
      exact ⟨.ref a, H, I, rfl, q _ _ (Same.refl _) (.tup ha da)⟩
    · exact new_tup (t := s.toks) I (r.append r2) (by rw [List.length_append]; omega) (dpAll_append da db) q
theorem opd_add : OpD X (binaryOp .Add) gAdd := by
  intro pins s σ H x y v u Q I rx ry h
  obtain ⟨p, q, r, hp, hq, e, k⟩ := h
  unfold gAdd at e
  split at e
  · cases e
    have := hp.int; have := hq.int; subst x y
    obtain ⟨t, rfl⟩ := rx
    obtain ⟨t', rfl⟩ := ry
    exact add_int (res_int (I.tok _) k)
  · split at e
    · rename_i hz
      cases e
      have := hp.str; have := hq.str; subst x y
      exact op_add_str pins s σ H _ _ v u Q I rx ry ⟨_, _, rfl, rfl, hz, k _ _ (Same.refl _) (.str _)⟩
    · cases e
  · split at e
    · rename_i hz
      cases e
      obtain ⟨a, vs, rfl, ha, da⟩ := hp.tup
      obtain ⟨b, us, rfl, hb, db⟩ := hq.tup
      cases rx; cases ry
      exact cat_tups I ha hb da db hz k
    · cases e
  · split at e
    · rename_i hz
      cases e
      obtain ⟨a, vs, rfl, ha, da⟩ := hp
      obtain ⟨b, us, rfl, hb, db⟩ := hq
      cases rx; cases ry
      exact cat_lists I ha hb da db hz k
    · cases e
  · cases e
end
end DL

set_option Elab.async false
set_option linter.all false
set_option maxRecDepth 100000
set_option maxHeartbeats 2000000
namespace DL
open PySem PySem.Spec PyProof.Rows L2
section
variable {X : Cx}
/-- a rule over two ints -/
theorem OpD.ints {f : Value → Value → Sem Value} {C : Int → Int → Prop} [∀ i j, Decidable (C i j)] {g : Int → Int → Int} (h : OpR X f (rI C fun i j => .int (g i j))) {G : PyData → PyData → Option PyData}
    (hG : ∀ p q r, G p q = some r → ∃ i j, p = .int i ∧ q = .int j ∧ C i j ∧ r = .int (g i j)) : OpD X f G := by
  intro pins s σ H x y v u Q I rx ry h'
  obtain ⟨p, q, r, hp, hq, e, k⟩ := h'
  obtain ⟨i, j, rfl, rfl, hc, rfl⟩ := hG p q r e
  have := hp.int; have := hq.int; subst x y
  exact h pins s σ H _ _ v u Q I rx ry ⟨i, j, rfl, rfl, hc, k _ _ (Same.refl _) (.int _)⟩
theorem OpD.ints0 {f : Value → Value → Sem Value} {g : Int → Int → Int} (h : OpR X f (rI0 fun i j => .int (g i j))) {G : PyData → PyData → Option PyData}
    (hG : ∀ p q r, G p q = some r → ∃ i j, p = .int i ∧ q = .int j ∧ r = .int (g i j)) : OpD X f G := by
  intro pins s σ H x y v u Q I rx ry h'
  obtain ⟨p, q, r, hp, hq, e, k⟩ := h'
  obtain ⟨i, j, rfl, rfl, rfl⟩ := hG p q r e
  have := hp.int; have := hq.int; subst x y
  exact h pins s σ H _ _ v u Q I rx ry ⟨i, j, rfl, rfl, k _ _ (Same.refl _) (.int _)⟩
def gSub : PyData → PyData → Option PyData
  | .int i, .int j => some (.int (i - j))
  | _, _ => none
theorem opd_sub : OpD X (binaryOp .Sub) gSub := OpD.ints0 op_sub fun p q r e => by
  unfold gSub at e
  split at e
  · cases e; exact ⟨_, _, rfl, rfl, rfl⟩
  · cases e
def gFdiv : PyData → PyData → Option PyData
  | .int i, .int j => if j ≠ 0 ∧ j.natAbs < 1073741824 then some (.int (i.fdiv j)) else none
  | _, _ => none
theorem opd_fdiv : OpD X (binaryOp .FloorDiv) gFdiv := by
  intro pins s σ H x y v u Q I rx ry h'
  obtain ⟨p, q, r, hp, hq, e, k⟩ := h'
  unfold gFdiv at e
  split at e
  · split at e
    · rename_i hc
      cases e
      have := hp.int; have := hq.int; subst x y
      exact op_fdivN pins s σ H _ _ v u Q I rx ry ⟨_, _, rfl, rfl, hc, k _ _ (Same.refl _) (.int _)⟩
    · cases e
  · cases e
def gMod : PyData → PyData → Option PyData
  | .int i, .int j => if j ≠ 0 then some (.int (i.fmod j)) else none
  | _, _ => none
theorem opd_mod : OpD X (binaryOp .Mod) gMod := by
  intro pins s σ H x y v u Q I rx ry h'
  obtain ⟨p, q, r, hp, hq, e, k⟩ := h'
  unfold gMod at e
  split at e
  · split at e
    · rename_i hc
      cases e
      have := hp.int; have := hq.int; subst x y
      exact op_modN pins s σ H _ _ v u Q I rx ry ⟨_, _, rfl, rfl, hc, k _ _ (Same.refl _) (.int _)⟩
    · cases e
  · cases e
def gPow : PyData → PyData → Option PyData
  | .int i, .int j => if 0 ≤ j ∧ j ≤ 1000000 ∧ i.natAbs < 2 ^ 64 then some (.int (i ^ j.toNat)) else none
  | _, _ => none
theorem opd_pow : OpD X (binaryOp .Pow) gPow := by
  intro pins s σ H x y v u Q I rx ry h'
  obtain ⟨p, q, r, hp, hq, e, k⟩ := h'
  unfold gPow at e
  split at e
  · split at e
    · rename_i hc
      cases e
      have := hp.int; have := hq.int; subst x y
      exact op_pow pins s σ H _ _ v u Q I rx ry ⟨_, _, rfl, rfl, hc, k _ _ (Same.refl _) (.int _)⟩
    · cases e
  · cases e
def gShl : PyData → PyData → Option PyData
  | .int i, .int j => if 0 ≤ j ∧ j ≤ 1000000 ∧ i.natAbs < 2 ^ 64 then some (.int (i * 2 ^ j.toNat)) else none
  | _, _ => none
theorem opd_shl : OpD X (binaryOp .LShift) gShl := by
  intro pins s σ H x y v u Q I rx ry h'
  obtain ⟨p, q, r, hp, hq, e, k⟩ := h'
  unfold gShl at e
  split at e
  · split at e
    · rename_i hc
      cases e
      have := hp.int; have := hq.int; subst x y
      exact op_shl pins s σ H _ _ v u Q I rx ry ⟨_, _, rfl, rfl, hc, k _ _ (Same.refl _) (.int _)⟩
    · cases e
  · cases e
def gShr : PyData → PyData → Option PyData
  | .int i, .int j => if 0 ≤ j then some (.int (i / 2 ^ j.toNat)) else none
  | _, _ => none
theorem opd_shr : OpD X (binaryOp .RShift) gShr := by
  intro pins s σ H x y v u Q I rx ry h'
  obtain ⟨p, q, r, hp, hq, e, k⟩ := h'
  unfold gShr at e
  split at e
  · split at e
    · rename_i hc
      cases e
      have := hp.int; have := hq.int; subst x y
      exact op_shr pins s σ H _ _ v u Q I rx ry ⟨_, _, rfl, rfl, hc, k _ _ (Same.refl _) (.int _)⟩
    · cases e
  · cases e
def gAnd : PyData → PyData → Option PyData
  | .int i, .int j => some (.int (Builtin.bitAnd i j))
  | _, _ => none
theorem opd_and : OpD X (binaryOp .BitAnd) gAnd := OpD.ints0 op_and fun p q r e => by
  unfold gAnd at e
  split at e
  · cases e; exact ⟨_, _, rfl, rfl, rfl⟩
  · cases e
def gXor : PyData → PyData → Option PyData
  | .int i, .int j => some (.int (Builtin.bitXor i j))
  | _, _ => none
theorem opd_xor : OpD X (binaryOp .BitXor) gXor := OpD.ints0 op_xor fun p q r e => by
  unfold gXor at e
  split at e
  · cases e; exact ⟨_, _, rfl, rfl, rfl⟩
  · cases e
def gMul : PyData → PyData → Option PyData
  | .int i, .int j => if (-(2 ^ 64) < i ∧ i < 2 ^ 64) ∨ (-(2 ^ 64) < j ∧ j < 2 ^ 64) then some (.int (i * j)) else none
  | .list xs, .int k => if 0 ≤ k ∧ k ≤ 1000 ∧ xs.length ≤ 1000 then some (.list (List.replicate k.toNat xs).flatten) else none
  | .tuple xs, .int k => if xs ≠ [] ∧ 2 ≤ k ∧ k ≤ 1000 ∧ xs.length ≤ 1000 then some (.tuple (List.replicate k.toNat xs).flatten) else none
  | _, _ => none
theorem opd_mul : OpD X (binaryOp .Mult) gMul := by
  intro pins s σ H x y v u Q I rx ry h'
  obtain ⟨p, q, r, hp, hq, e, k⟩ := h'
  unfold gMul at e
  split at e
  · split at e
    · rename_i hc
      cases e
      have := hp.int; have := hq.int; subst x y
      exact op_mul pins s σ H _ _ v u Q I rx ry ⟨_, _, rfl, rfl, hc, k _ _ (Same.refl _) (.int _)⟩
    · cases e
  · rename_i xs i
    split at e
    · rename_i hc
      obtain ⟨h0, h1, h2⟩ := hc
      cases e
      obtain ⟨a, vs, rfl, ha, da⟩ := hp
      have := hq.int; subst y
      cases rx
      obtain ⟨t, rfl⟩ := ry
      obtain ⟨its, dd, n, sl, r, z, e⟩ := list_obj I ha
      have l1 := r.length
      have l3 := dpAll_len da
      have hk : i.toNat ≤ 1000 := by omega
      have hm : its.length * i.toNat ≤ 1000 * 1000 := Nat.mul_le_mul (by omega) hk
      have hs := sizeLine_eq
      have fits : ¬ (!Builtin.List.listFitsIndex i) = true := by
        rw [fitsIndex_both (by omega) (by omega)]
        exact Bool.false_ne_true
      refine wpAny_binaryOp_repeat_ref (T := "list") (U := "int") (by decide) ⟨_, e, rfl⟩ (fun s' => typeIs_int s' i t) noFill_list_mul PySem.F.fills_int_mul PySem.F.slot_int_rmul repeat_list PySem.F.slot_int_index.lookup
        (call_meets PySem.F.slot_int_rmul (typeIs_int s i t) PySem.F.entry_int_rmul (PySem.F.args_int_rmul_2 _ _) (lm_int_rmul_list_any i t a its.toArray n dd sl)
          ⟨e, rfl, ⟨_, e, rfl⟩, call_meets PySem.F.slot_list_mul ⟨_, e, rfl⟩ PySem.F.entry_list_mul (PySem.F.args_list_mul_2 _ _)
            (lm_list_mul_any a its.toArray n dd sl i t (by simp [Builtin.List.listFitsIndex]; omega) (by simp; omega) (by simp [Builtin.List.listTooLong, sizeLine]; omega))
            ⟨e, ?_⟩⟩)
      rw [listMul_foldl_if]
      exact new_list (t := s.toks) I (r.rep i.toNat) (by rw [PyProof.Rows.lm_len_rep_flat, Nat.mul_comm, l1]; omega) (dpAll_rep da i.toNat) k
    · cases e
  · rename_i xs i
    split at e
    · rename_i hc
      obtain ⟨h0, h1, h2, h3⟩ := hc
      cases e
      obtain ⟨a, vs, rfl, ha, da⟩ := hp.tup
      have := hq.int; subst y
      have l3 := dpAll_len da
      refine op_repT pins s σ H _ _ v u Q I rx ry ⟨_, _, _, rfl, rfl, sqT_up ha, fun z => h0 ?_, h1, h2, by omega, fun p hp => ?_⟩
      · rw [z] at l3
        exact List.eq_nil_of_length_eq_zero l3.symm
      · have g : Same H (upd H p (.tup (List.replicate i.toNat vs).flatten)) := grow_new hp
        exact k _ _ g (.tup (.inl (.inl (Fz_tup upd_same))) (dpAll_mono (FS.same g) _ _ (dpAll_rep da _)))
    · cases e
  · cases e
end

/-! ### comparisons of data -/
section
variable {X : Cx}
theorem reads_of {pins : List (Addr × Obj)} {σ : L2.St} {H : Hp} {s : Shared} (I : Inv X pins σ H s) {x : V} {v : Value} {p : PyData} (h : DpT X.K H x p) (r : RelV x v) : ∃ as, Reads s.heap v p as := Dp.reads I p x v h.dp r
theorem DpT.plain {K : PySem.W.Frag} {H : Hp} {x : V} {p : PyData} (h : DpT K H x p) : p.plain = true := dp_plain p x h.dp
theorem min_le64 {a b : Nat} (h : a ≤ 64) : min a b ≤ 64 := Nat.le_trans (Nat.min_le_left _ _) h
def gEq (p q : PyData) : Option PyData := if p.depth ≤ 64 then some (.bool (PyData.eqv p q)) else none
def gNe (p q : PyData) : Option PyData := if p.depth ≤ 64 then some (.bool (!PyData.eqv p q)) else none
theorem opd_eq (hu : X.A.units + 64 < cLine) : OpD X (compareOp .Eq) gEq := by
  intro pins s σ H x y v u Q I rx ry h'
  obtain ⟨p, q, r, hp, hq, e, k⟩ := h'
  unfold gEq at e
  split at e
  · rename_i hd
    cases e
    obtain ⟨as, r1⟩ := reads_of I hp rx
    obtain ⟨bs, r2⟩ := reads_of I hq ry
    have hm := min_le64 (b := q.depth) hd
    exact SeqAt.eq_plain r1 r2 hp.plain hq.plain (by omega) (res_bool I k)
  · cases e
theorem opd_ne (hu : X.A.units + 64 < cLine) : OpD X (compareOp .NotEq) gNe := by
  intro pins s σ H x y v u Q I rx ry h'
  obtain ⟨p, q, r, hp, hq, e, k⟩ := h'
  unfold gNe at e
  split at e
  · rename_i hd
    cases e
    obtain ⟨as, r1⟩ := reads_of I hp rx
    obtain ⟨bs, r2⟩ := reads_of I hq ry
    have hm := min_le64 (b := q.depth) hd
    exact SeqAt.ne_plain r1 r2 hp.plain hq.plain (by omega) (res_bool I k)
  · cases e
def noneB : PyData → Bool
  | .none => true
  | _ => false
theorem noneB_ne {p : PyData} (h : noneB p = false) : p ≠ .none := fun e => by subst e; cases h
def okLt (p q : PyData) : Bool := PySem.W.alike p q && (!noneB p && decide (p.depth ≤ 64))
theorem okLt_of {p q : PyData} (h : okLt p q = true) : PySem.W.alike p q = true ∧ p ≠ .none ∧ p.depth ≤ 64 := by
  unfold okLt at h
  simp only [Bool.and_eq_true, Bool.not_eq_true', decide_eq_true_eq] at h
  exact ⟨h.1, noneB_ne h.2.1, h.2.2⟩
def gLt (p q : PyData) : Option PyData := if okLt p q = true then some (.bool (PySem.W.dataLt p q)) else none
def gGt (p q : PyData) : Option PyData := if okLt p q = true then some (.bool (PySem.W.dataLt q p)) else none
def gLe (p q : PyData) : Option PyData := if okLt p q = true then some (.bool (!PySem.W.dataLt q p)) else none
def gGe (p q : PyData) : Option PyData := if okLt p q = true then some (.bool (!PySem.W.dataLt p q)) else none
theorem opd_lt (hu : X.A.units + 64 < cLine) : OpD X (compareOp .Lt) gLt := by
  intro pins s σ H x y v u Q I rx ry h'
  obtain ⟨p, q, r, hp, hq, e, k⟩ := h'
  unfold gLt at e
  split at e
  · rename_i hd
    cases e
    obtain ⟨h1, h2, h3⟩ := okLt_of hd
    obtain ⟨as, r1⟩ := reads_of I hp rx
    obtain ⟨bs, r2⟩ := reads_of I hq ry
    have hm := min_le64 (b := q.depth) h3
    exact PySem.W.lt_data r1 r2 h1 h2 (by omega) (res_bool I k)
  · cases e
theorem opd_gt (hu : X.A.units + 64 < cLine) : OpD X (compareOp .Gt) gGt := by
  intro pins s σ H x y v u Q I rx ry h'
  obtain ⟨p, q, r, hp, hq, e, k⟩ := h'
  unfold gGt at e
  split at e
  · rename_i hd
    cases e
    obtain ⟨h1, h2, h3⟩ := okLt_of hd
    obtain ⟨as, r1⟩ := reads_of I hp rx
    obtain ⟨bs, r2⟩ := reads_of I hq ry
    have hm := min_le64 (b := q.depth) h3
    exact PySem.W.gt_data r1 r2 h1 h2 (by omega) (res_bool I k)
  · cases e
theorem opd_le (hu : X.A.units + 64 < cLine) : OpD X (compareOp .LtE) gLe := by
  intro pins s σ H x y v u Q I rx ry h'
  obtain ⟨p, q, r, hp, hq, e, k⟩ := h'
  unfold gLe at e
  split at e
  · rename_i hd
    cases e
    obtain ⟨h1, h2, h3⟩ := okLt_of hd
    obtain ⟨as, r1⟩ := reads_of I hp rx
    obtain ⟨bs, r2⟩ := reads_of I hq ry
    have hm := min_le64 (b := q.depth) h3
    exact PySem.W.le_data r1 r2 h1 h2 (by omega) (res_bool I k)
  · cases e
theorem opd_ge (hu : X.A.units + 64 < cLine) : OpD X (compareOp .GtE) gGe := by
  intro pins s σ H x y v u Q I rx ry h'
  obtain ⟨p, q, r, hp, hq, e, k⟩ := h'
  unfold gGe at e
  split at e
  · rename_i hd
    cases e
    obtain ⟨h1, h2, h3⟩ := okLt_of hd
    obtain ⟨as, r1⟩ := reads_of I hp rx
    obtain ⟨bs, r2⟩ := reads_of I hq ry
    have hm := min_le64 (b := q.depth) h3
    exact PySem.W.ge_data r1 r2 h1 h2 (by omega) (res_bool I k)
  · cases e
/-- x in c -/
def gIn : PyData → PyData → Option PyData
  | p, .list xs => if p.depth ≤ 63 then some (.bool (xs.any fun y => PyData.eqv y p)) else none
  | p, .tuple xs => if p.depth ≤ 63 then some (.bool (xs.any fun y => PyData.eqv y p)) else none
  | .str a, .str b => some (.bool (!(Builtin.Str.occurrences b a 0 b.length 1).isEmpty))
  | _, _ => none
def gNotIn : PyData → PyData → Option PyData
  | p, .list xs => if p.depth ≤ 63 then some (.bool (!xs.any fun y => PyData.eqv y p)) else none
  | p, .tuple xs => if p.depth ≤ 63 then some (.bool (!xs.any fun y => PyData.eqv y p)) else none
  | .str a, .str b => some (.bool (!(!(Builtin.Str.occurrences b a 0 b.length 1).isEmpty)))
  | _, _ => none
theorem min_le63 {a b : Nat} (h : b ≤ 63) : min a b ≤ 63 := Nat.le_trans (Nat.min_le_right _ _) h
theorem opd_in (hu : X.A.units + 64 < cLine) : OpD X (compareOp .In) gIn := by
  intro pins s σ H x y v u Q I rx ry h'
  obtain ⟨p, q, r, hp, hq, e, k⟩ := h'
  unfold gIn at e
  split at e
  · split at e
    · rename_i xs hd
      cases e
      obtain ⟨as, r1⟩ := reads_of I hp rx
      obtain ⟨bs, r2⟩ := reads_of I hq ry
      have hm := min_le63 (a := PyData.depthAll xs) hd
      exact SeqAt.in_list_data r2 r1 hq.plain hp.plain (by omega) (res_bool I k)
    · cases e
  · split at e
    · rename_i xs hd
      cases e
      obtain ⟨as, r1⟩ := reads_of I hp rx
      obtain ⟨bs, r2⟩ := reads_of I hq ry
      have hm := min_le63 (a := PyData.depthAll xs) hd
      exact SeqAt.in_tuple_data r2 r1 hq.plain hp.plain (by omega) (res_bool I k)
    · cases e
  · cases e
    have := hp.str; have := hq.str; subst x y
    exact op_in_str pins s σ H _ _ v u Q I rx ry ⟨_, _, rfl, rfl, k _ _ (Same.refl _) (.bl _)⟩
  · cases e
theorem opd_notIn (hu : X.A.units + 64 < cLine) : OpD X (compareOp .NotIn) gNotIn := by
  intro pins s σ H x y v u Q I rx ry h'
  obtain ⟨p, q, r, hp, hq, e, k⟩ := h'
  unfold gNotIn at e
  split at e
  · split at e
    · rename_i xs hd
      cases e
      obtain ⟨as, r1⟩ := reads_of I hp rx
      obtain ⟨bs, r2⟩ := reads_of I hq ry
      have hm := min_le63 (a := PyData.depthAll xs) hd
      exact SeqAt.notIn_list_data r2 r1 hq.plain hp.plain (by omega) (res_bool I k)
    · cases e
  · split at e
    · rename_i xs hd
      cases e
      obtain ⟨as, r1⟩ := reads_of I hp rx
      obtain ⟨bs, r2⟩ := reads_of I hq ry
      have hm := min_le63 (a := PyData.depthAll xs) hd
      exact SeqAt.notIn_tuple_data r2 r1 hq.plain hp.plain (by omega) (res_bool I k)
    · cases e
  · cases e
    have := hp.str; have := hq.str; subst x y
    exact op_notIn_str pins s σ H _ _ v u Q I rx ry ⟨_, _, rfl, rfl, k _ _ (Same.refl _) (.bl _)⟩
  · cases e
/-- x is None, x is True, x is False -/
def gIs : PyData → PyData → Option PyData
  | p, .none => some (.bool (noneB p))
  | .bool a, .bool b => some (.bool (decide (a = b)))
  | _, _ => none
def gIsNot : PyData → PyData → Option PyData
  | p, .none => some (.bool (!noneB p))
  | .bool a, .bool b => some (.bool (!decide (a = b)))
  | _, _ => none
theorem DpT.noneB {K : PySem.W.Frag} {H : Hp} {v : V} {p : PyData} (h : DpT K H v p) : decide (v = .non) = noneB p := by
  have h' := h.dp
  cases h' <;> simp [DL.noneB]
theorem opd_is : OpD X (compareOp .Is) gIs := by
  intro pins s σ H x y v u Q I rx ry h'
  obtain ⟨p, q, r, hp, hq, e, k⟩ := h'
  unfold gIs at e
  split at e
  · cases e
    have := hq.non; subst y
    refine op_isN pins s σ H _ _ v u Q I rx ry ⟨rfl, ?_⟩
    rw [hp.noneB]
    exact k _ _ (Same.refl _) (.bl _)
  · cases e
    have := hp.bl; have := hq.bl; subst x y
    exact op_isBl pins s σ H _ _ v u Q I rx ry ⟨_, _, rfl, rfl, k _ _ (Same.refl _) (.bl _)⟩
  · cases e
theorem opd_isNot : OpD X (compareOp .IsNot) gIsNot := by
  intro pins s σ H x y v u Q I rx ry h'
  obtain ⟨p, q, r, hp, hq, e, k⟩ := h'
  unfold gIsNot at e
  split at e
  · cases e
    have := hq.non; subst y
    refine op_notN pins s σ H _ _ v u Q I rx ry ⟨rfl, ?_⟩
    rw [hp.noneB]
    exact k _ _ (Same.refl _) (.bl _)
  · cases e
    have := hp.bl; have := hq.bl; subst x y
    exact op_notBl pins s σ H _ _ v u Q I rx ry ⟨_, _, rfl, rfl, k _ _ (Same.refl _) (.bl _)⟩
  · cases e
end
end DL

set_option Elab.async false
set_option linter.all false
set_option maxRecDepth 100000
set_option maxHeartbeats 2000000
/-! sorting tuples, some of them empty -/
namespace PySem.W
open PySem PySem.SeqAt PySem.Calls PyProof.Rows
section
variable {prog : Program} {w : World} {A : Around} {E : Value → Shared → Prop} {s : Shared}
theorem dl_call_tuple_lt {Q : Value → Shared → Prop} {l b : Addr} {items items2 : Array Value} {e r : Nat → Bool} (hl : s.heap.IsTuple l items) (hb : s.heap.IsTuple b items2)
    (he : ∀ j (h1 : j < items.size) (h2 : j < items2.size), EqAt A.in1 s items[j] items2[j] (e j)) (hr : ∀ j (h1 : j < items.size) (h2 : j < items2.size), e j = false → RcLt A.in1 s items[j] items2[j] (r j))
    (h : Q (.bool (firstLt e r (decide (items.size < items2.size)) (List.range (min items.size items2.size)))) s) : wpAny (model prog w) A (call (.builtin "tuple.__lt__") [.ref l, .ref b]) Q E s := by
  obtain ⟨⟨cls, dd, data, sl⟩, ho, hc, n, hd⟩ := id hl
  obtain ⟨⟨cls2, dd2, data2, sl2⟩, ho2, hc2, n2, hd2⟩ := id hb
  simp only at hc hd hc2 hd2
  subst hc hd hc2 hd2
  exact call_meets F.slot_tuple_lt ⟨_, ho, rfl⟩ F.entry_tuple_lt (F.args_tuple_lt_2 _ _) (tuple_ltAt l b items items2 n n2 dd dd2 sl sl2 e r) ⟨ho, ho2, he, hr, h⟩
theorem dl_oneLt_tup {xs ys : List PyData} {a b : Value} {as bs : List Addr} {Q : Bool → Shared → Prop} (ra : Reads s.heap a (.tuple xs) as) (rb : Reads s.heap b (.tuple ys) bs) (h : alike (.tuple xs) (.tuple ys) = true)
    (hu : A.units + min (PyData.tuple xs).depth (PyData.tuple ys).depth < cLine) (hq : Q (dataLt (.tuple xs) (.tuple ys)) s) : wpAny (model prog w) A (oneLt' true a b) Q E s := by
  have hal : alikeAll xs ys = true := by simpa [alike] using h
  cases ra with
  | @tuple l o vs n _ as₁ h1 h2 h3 h4 =>
    cases rb with
    | @tuple l' o' vs' n' _ bs₁ k1 k2 k3 k4 =>
      have n1 : vs.size = xs.length := by simpa using ReadsAll.length _ _ _ h4
      have n2 : vs'.size = ys.length := by simpa using ReadsAll.length _ _ _ k4
      rw [dataLt_tuple, ← firstLt_toks xs ys hal, ← n1, ← n2] at hq
      rw [oneLt'_eq]
      simp only [if_true]
      refine wpAny_bind (wpAny_cRoomFor (room_here hu) ?_)
      refine wpAny_bind (wpAny_callSpecialIfBound?_slot (T := "tuple") ⟨_, h1, h2⟩ F.slot_tuple_lt (dl_call_tuple_lt (e := pairEq xs ys) (r := fun j => dataLt (xs.getD j .none) (ys.getD j .none)) ⟨_, h1, h2, _, h3⟩ ⟨_, k1, k2, _, k3⟩ (fun j j1 j2 => ?_) (fun j j1 j2 hj => ?_) ?_))
      · have := eqAt_alikeAll xs ys A.in1 s vs.toList vs'.toList _ _ h4 k4 hal (room_in hu) j (by simpa using j1) (by simpa using j2)
        simpa using this
      · have := rcLt_alikeAll xs ys A.in1 s vs.toList vs'.toList _ _ h4 k4 hal (room_in hu) j (by simpa using j1) (by simpa using j2) hj
        simpa using this
      · exact wpAny_truthy_bool hq
/-- the first items -/
theorem dl_firsts : ∀ {vs : List Value} {ds : List PyData}, EachIs (fun v d => ∃ as, Reads s.heap v d as) vs ds → (∀ d, d ∈ ds → ∃ xs, d = .tuple xs) →
    ∃ fs : List (Option Value), fs.map (·.isSome) = ds.map (fun d => match d with | .tuple (_ :: _) => true | _ => false) ∧ ∀ {Q : List (Option Value) → Shared → Prop}, Q fs s → wpAny (model prog w) A (vs.mapM firstOfTuple') Q E s
  | _, _, .nil, _ => ⟨[], rfl, fun h => by rw [List.mapM_nil]; exact wpAny_pure h⟩
  | _, _, .cons (b := d) ⟨as, r⟩ t, ht => by
    obtain ⟨fs, h1, h2⟩ := dl_firsts t fun d hd => ht d (List.mem_cons_of_mem _ hd)
    obtain ⟨xs, rfl⟩ := ht d (List.mem_cons_self ..)
    cases r with
    | @tuple a o its n _ _ ho hc hd hr =>
      refine ⟨its[0]? :: fs, ?_, fun {Q} h => ?_⟩
      · rw [List.map_cons, List.map_cons, h1]
        congr 1
        cases q : its.toList with
        | nil =>
          rw [q] at hr
          cases hr
          have e0 : its[0]? = none := by rw [← Array.getElem?_toList, q]; rfl
          rw [e0]; rfl
        | cons f fr =>
          rw [q] at hr
          cases hr with
          | cons r1 r2 =>
            have e0 : its[0]? = some f := by rw [← Array.getElem?_toList, q]; rfl
            rw [e0]; rfl
      · rw [List.mapM_cons]
        refine wpAny_bind ?_
        rw [kas_first_eq]
        refine wpAny_bind (Looks.here (show Looks (model prog w) s.heap (typeOf (.ref a)) o.cls from (Looks.ld ho).andThen .now) ?_)
        rw [hc, if_neg (by first | decide | simp)]
        refine wpAny_bind (listItems_at ho hd (wpAny_pure ?_))
        exact wpAny_bind (h2 (Q := fun bs s' => wpAny (model prog w) A (pure (its[0]? :: bs)) Q E s') (wpAny_pure h))
theorem dl_sortsAt {vs : List Value} {ds : List PyData} (e : EachIs (fun v d => ∃ as, Reads s.heap v d as) vs ds) (hal : AllAlike ds) (ht : ∀ d, d ∈ ds → ∃ xs, d = .tuple xs) (hu : ∀ d, d ∈ ds → A.units + d.depth < cLine) : SortsAt prog w A s (dataKind s.heap ds) vs := by
  have room : ∀ {d d' : PyData}, d ∈ ds → A.units + min d.depth d'.depth < cLine := fun {d d'} hd => Nat.lt_of_le_of_lt (Nat.add_le_add_left (Nat.min_le_left _ _) _) (hu d hd)
  by_cases hall : ∀ d, d ∈ ds → ∃ x r, d = .tuple (x :: r)
  · exact SortsAt.data e hal (.inl hall) hu
  · have lenE : vs.length = ds.length := e.length
    have lt : ∀ (f : Bool), ∀ (E : Value → Shared → Prop) (x y : Value) (a b : (dataKind s.heap ds).α) {Q : Bool → Shared → Prop},
        (dataKind s.heap ds).keyOf x = some a → (dataKind s.heap ds).keyOf y = some b → Q ((dataKind s.heap ds).blt a b) s → wpAny (model prog w) A (oneLt' f x y) Q E s := by
      intro f E x y a b Q ha hb hq
      obtain ⟨d, as, hd, ra, rfl⟩ := dataKind_inv ha
      obtain ⟨d', as', hd', rb, rfl⟩ := dataKind_inv hb
      obtain ⟨xs, rfl⟩ := ht d hd
      obtain ⟨ys, rfl⟩ := ht d' hd'
      cases f with
      | false => exact oneLt_alike (fun z => nomatch z) ra rb (hal _ hd _ hd') (fun z => nomatch z) (room hd) hq
      | true => exact dl_oneLt_tup ra rb (hal _ hd _ hd') (room hd) hq
    refine ⟨fun v hv => ?_, ?_⟩
    · obtain ⟨d, hd, as, r⟩ := e.left v hv
      exact ⟨_, dataKind_some hal hd r⟩
    · obtain ⟨fs, h1, h2⟩ := dl_firsts (prog := prog) (w := w) (A := A) (E := fun _ _ => True) e ht
      have notAll : (fs.toArray.all fun x => x.isSome) = false := by
        cases q : fs.toArray.all fun x => x.isSome with
        | false => rfl
        | true =>
          exfalso
          refine hall fun d hd => ?_
          have q2 : ∀ x ∈ fs.map (·.isSome), x = true := by
            intro x hx
            obtain ⟨y, hy, rfl⟩ := List.mem_map.mp hx
            have := (List.all_toArray (p := fun x : Option Value => x.isSome) (l := fs)) ▸ q
            exact List.all_eq_true.mp this y hy
          rw [h1] at q2
          have q3 := q2 _ (List.mem_map.mpr ⟨d, hd, rfl⟩)
          obtain ⟨xs, rfl⟩ := ht d hd
          cases xs with
          | nil => cases q3
          | cons x r => exact ⟨x, r, rfl⟩
      cases hf : (fs.toArray[0]?.bind id).isSome with
      | true =>
        refine ⟨general', fun E x y a b Q ha hb hq => lt false E x y a b ha hb hq, fun hl E Q hq => ?_⟩
        obtain ⟨fs', h1', h2'⟩ := dl_firsts (prog := prog) (w := w) (A := A) (E := E) e ht
        have es : fs'.map (·.isSome) = fs.map (·.isSome) := h1'.trans h1.symm
        have all' : (fs'.toArray.all fun x => x.isSome) = false := by
          rw [List.all_toArray] at notAll ⊢
          have : fs'.all (fun x => x.isSome) = (fs'.map (·.isSome)).all id := by rw [List.all_map]; rfl
          rw [this, es, List.all_map]
          exact notAll
        have hd' : (fs'.toArray[0]?.bind id).isSome = true := by
          rw [← hf]
          cases fs' with
          | nil => cases fs with
            | nil => rfl
            | cons a b => cases es
          | cons c d => cases fs with
            | nil => cases es
            | cons a b =>
              have : c.isSome = a.isSome := by injection es
              simpa using this
        rw [keyKind'_eq, List.mapM_toArray, map_eq_pure_bind]
        refine wpAny_bind (wpAny_bind (h2' (wpAny_pure ?_)))
        rw [if_neg (by rw [all']; exact Bool.false_ne_true), if_pos hd']
        exact wpAny_pure hq
      | false =>
        refine ⟨oneType', fun E x y a b Q ha hb hq => by rw [keyLt'_oneType]; exact lt true E x y a b ha hb hq, fun hl E Q hq => ?_⟩
        obtain ⟨fs', h1', h2'⟩ := dl_firsts (prog := prog) (w := w) (A := A) (E := E) e ht
        have es : fs'.map (·.isSome) = fs.map (·.isSome) := h1'.trans h1.symm
        have all' : (fs'.toArray.all fun x => x.isSome) = false := by
          rw [List.all_toArray] at notAll ⊢
          have : fs'.all (fun x => x.isSome) = (fs'.map (·.isSome)).all id := by rw [List.all_map]; rfl
          rw [this, es, List.all_map]
          exact notAll
        have hd' : (fs'.toArray[0]?.bind id).isSome = false := by
          rw [← hf]
          cases fs' with
          | nil => cases fs with
            | nil => rfl
            | cons a b => cases es
          | cons c d => cases fs with
            | nil => cases es
            | cons a b =>
              have : c.isSome = a.isSome := by injection es
              simpa using this
        rw [keyKind'_eq, List.mapM_toArray, map_eq_pure_bind]
        refine wpAny_bind (wpAny_bind (h2' (wpAny_pure ?_)))
        rw [if_neg (by rw [all']; exact Bool.false_ne_true), if_neg (by rw [hd']; exact Bool.false_ne_true)]
        rw [oneTypeOnly'_eq, List.mapM_toArray, map_eq_pure_bind]
        refine wpAny_bind (wpAny_bind (wpAny_bind (kas_mapM (r := Value.type "tuple") _ (fun v hv Q' hq => ?_) (wpAny_pure ?_))))
        · obtain ⟨d, hd, as, r⟩ := e.left v hv
          obtain ⟨xs, rfl⟩ := ht d hd
          exact (looks_reads r).here hq
        · cases vs with
          | nil => simp at hl
          | cons v vr =>
            have hall2 : ((List.map (fun _ => Value.type "tuple") (v :: vr)).toArray.all fun x => x == Value.type "tuple") = true := by
              simp only [List.all_toArray, List.all_map, List.all_eq_true]
              intro _ _
              rfl
            have h0 : (List.map (fun _ => Value.type "tuple") (v :: vr)).toArray[0]? = some (Value.type "tuple") := by simp
            rw [h0]
            simp only [hall2, if_true]
            exact wpAny_pure (wpAny_pure hq)
end
end PySem.W

set_option Elab.async false
set_option linter.all false
set_option maxRecDepth 100000
set_option maxHeartbeats 2000000
namespace DL
open PySem PySem.Spec PyProof.Rows L2
/-! ### built-in functions of one datum -/
def CalD (X : Cx) (f : Value) (g : PyData → Option PyData) : Prop :=
  CallR X f (fun vs H Q => ∃ v p r, vs = [v] ∧ DpT X.K H v p ∧ g p = some r ∧ Res X.K H r Q)
def CalD2 (X : Cx) (f : Value) (g : PyData → PyData → Option PyData) : Prop :=
  CallR X f (fun vs H Q => ∃ v u p q r, vs = [v, u] ∧ DpT X.K H v p ∧ DpT X.K H u q ∧ g p q = some r ∧ Res X.K H r Q)
section
variable {X : Cx}
def gLen : PyData → Option PyData
  | .str a => if a.length ≤ sizeLine then some (.int a.length) else none
  | .list xs => some (.int xs.length)
  | .tuple xs => some (.int xs.length)
  | _ => none
theorem cald_len : CalD X (.builtin "len") gLen := by
  intro pins s σ H xs us Q I r h
  obtain ⟨v, p, q, rfl, hp, e, k⟩ := h
  unfold gLen at e
  split at e
  · split at e
    · rename_i a hz
      cases e
      have := hp.str; subst v
      exact call_len_str pins s σ H _ us Q I r ⟨_, rfl, hz, k _ _ (Same.refl _) (.int _)⟩
    · cases e
  · cases e
    obtain ⟨a, vs, rfl, ha, da⟩ := hp
    refine call_len_seq pins s σ H _ us Q I r ⟨_, vs, rfl, .inl ha, ?_⟩
    rw [dpAll_len da]
    exact k _ _ (Same.refl _) (.int _)
  · cases e
    obtain ⟨a, vs, rfl, ha, da⟩ := hp.tup
    refine call_len_seq pins s σ H _ us Q I r ⟨_, vs, rfl, .inr (sqT_up ha), ?_⟩
    rw [dpAll_len da]
    exact k _ _ (Same.refl _) (.int _)
  · cases e
def gAbs : PyData → Option PyData
  | .int i => some (.int (if i < 0 then -i else i))
  | _ => none
theorem cald_abs : CalD X (.builtin "abs") gAbs := by
  intro pins s σ H xs us Q I r h
  obtain ⟨v, p, q, rfl, hp, e, k⟩ := h
  unfold gAbs at e
  split at e
  · cases e
    have := hp.int; subst v
    exact call_abs pins s σ H _ us Q I r ⟨_, rfl, k _ _ (Same.refl _) (.int _)⟩
  · cases e
def gInt : PyData → Option PyData
  | .int i => some (.int i)
  | .bool b => some (.int (if b then 1 else 0))
  | _ => none
theorem cald_int : CalD X (.type "int") gInt := by
  intro pins s σ H xs us Q I r h
  obtain ⟨v, p, q, rfl, hp, e, k⟩ := h
  unfold gInt at e
  split at e
  · cases e
    have := hp.int; subst v
    exact call_int1 pins s σ H _ us Q I r (.inl ⟨_, rfl, k _ _ (Same.refl _) (.int _)⟩)
  · cases e
    have := hp.bl; subst v
    exact call_int1 pins s σ H _ us Q I r (.inr ⟨_, rfl, k _ _ (Same.refl _) (.int _)⟩)
  · cases e
def gBool : PyData → Option PyData
  | .int i => some (.bool (i != 0))
  | .bool b => some (.bool b)
  | _ => none
theorem cald_bool : CalD X (.type "bool") gBool := by
  intro pins s σ H xs us Q I r h
  obtain ⟨v, p, q, rfl, hp, e, k⟩ := h
  unfold gBool at e
  split at e
  · cases e
    have := hp.int; subst v
    exact call_bool1 pins s σ H _ us Q I r (.inl ⟨_, rfl, k _ _ (Same.refl _) (.bl _)⟩)
  · cases e
    have := hp.bl; subst v
    exact call_bool1 pins s σ H _ us Q I r (.inr ⟨_, rfl, k _ _ (Same.refl _) (.bl _)⟩)
  · cases e
/-- a rule that lays a new list, then let go as data -/
theorem CallR.frz {f : Value} {r : List V → Hp → VK → Prop} (h : CallR X f r) : CallR X f (fun xs H Q => r xs H fun v H' => (∃ p vs, v = .ref p ∧ H' p = some (.lst vs) ∧ ∀ o, Q v (upd H' p (.frz o (.lst vs)))) ∨ Q v H') := by
  intro pins s σ H xs us Q I rr q
  refine thn (h pins s σ H xs us _ I rr q) fun u s1 ⟨v, H', I', rv, z⟩ => ?_
  rcases z with ⟨p, vs, e, hp, z⟩ | z
  · obtain ⟨od, J⟩ := Inv.lock I' hp trivial
    exact ⟨v, _, J, rv, z od⟩
  · exact ⟨v, H', I', rv, z⟩
/-- a new list at p, let go -/
theorem new_frz {K : PySem.W.Frag} {H : Hp} {Q : VK} {p : Addr} {vs : List V} {ds : List PyData} (hp : H p = none) (da : DpAll [] (Fz H) vs ds) (q : Res K H (.list ds) Q) :
    (∃ p' vs', V.ref p = .ref p' ∧ (upd H p (.lst vs)) p' = some (.lst vs') ∧ ∀ o, Q (.ref p) (upd (upd H p (.lst vs)) p' (.frz o (.lst vs')))) ∨ Q (.ref p) (upd H p (.lst vs)) := by
  refine .inl ⟨p, vs, rfl, upd_same, fun o => ?_⟩
  rw [upd_upd]
  have g : Same H (upd H p (.frz o (.lst vs))) := grow_new hp
  exact q _ _ g (.lst (.inl (.inr ⟨o, Fz_frz upd_same⟩)) (dpAll_mono (FS.same g) _ _ da))
def gList : PyData → Option PyData
  | .list xs => some (.list xs)
  | .tuple xs => some (.list xs)
  | _ => none
theorem cald_list : CalD X (.type "list") gList := by
  intro pins s σ H xs us Q I r h
  obtain ⟨v, p, q, rfl, hp, e, k⟩ := h
  unfold gList at e
  split at e
  · cases e
    obtain ⟨a, vs, rfl, ha, da⟩ := hp
    exact CallR.frz call_list_of pins s σ H _ us Q I r ⟨_, vs, rfl, .inl ha, fun l hl => new_frz hl da k⟩
  · cases e
    obtain ⟨a, vs, rfl, ha, da⟩ := hp.tup
    exact CallR.frz call_list_of pins s σ H _ us Q I r ⟨_, vs, rfl, .inr (sqT_up ha), fun l hl => new_frz hl da k⟩
  · cases e
def gTuple : PyData → Option PyData
  | .list xs => some (.tuple xs)
  | .tuple xs => some (.tuple xs)
  | _ => none
theorem cald_tuple : CalD X (.type "tuple") gTuple := by
  intro pins s σ H xs us Q I r h
  obtain ⟨v, p, q, rfl, hp, e, k⟩ := h
  unfold gTuple at e
  split at e
  · cases e
    obtain ⟨a, vs, rfl, ha, da⟩ := hp
    refine call_tuple_of pins s σ H _ us Q I r ⟨_, vs, rfl, .inl ⟨ha, fun l hl => ?_⟩⟩
    have g : Same H (upd H l (.tup vs)) := grow_new hl
    exact k _ _ g (.tup (.inl (.inl (Fz_tup upd_same))) (dpAll_mono (FS.same g) _ _ da))
  · cases e
    obtain ⟨a, vs, rfl, ha, da⟩ := hp.tup
    exact call_tuple_of pins s σ H _ us Q I r ⟨_, vs, rfl, .inr ⟨sqT_up ha, k _ _ (Same.refl _) (.tup ha da)⟩⟩
  · cases e
/-- a list of bools, of ints -/
def boolsOf : List PyData → Option (List Bool)
  | [] => some []
  | .bool b :: r => (boolsOf r).map (b :: ·)
  | _ :: _ => none
def intsOf : List PyData → Option (List Int)
  | [] => some []
  | .int b :: r => (intsOf r).map (b :: ·)
  | _ :: _ => none
theorem boolsOf_ok {K : PySem.W.Frag} {H : Hp} : ∀ {ds : List PyData} {bs : List Bool} {vs : List V}, boolsOf ds = some bs → DpAll K H vs ds → vs = bs.map V.bl
  | [], _, _, e, h => by cases h; cases e; rfl
  | .bool b :: r, bs, _, e, h => by
    cases h with
    | cons h1 h2 =>
      cases h1
      unfold boolsOf at e
      cases q : boolsOf r with
      | none => rw [q] at e; cases e
      | some cs =>
        rw [q] at e; cases e
        rw [boolsOf_ok q h2]; rfl
  | .none :: _, _, _, e, _ => by cases e
  | .int _ :: _, _, _, e, _ => by cases e
  | .str _ :: _, _, _, e, _ => by cases e
  | .list _ :: _, _, _, e, _ => by cases e
  | .tuple _ :: _, _, _, e, _ => by cases e
  | .dict _ :: _, _, _, e, _ => by cases e
theorem intsOf_ok {K : PySem.W.Frag} {H : Hp} : ∀ {ds : List PyData} {bs : List Int} {vs : List V}, intsOf ds = some bs → DpAll K H vs ds → vs = bs.map V.int
  | [], _, _, e, h => by cases h; cases e; rfl
  | .int b :: r, bs, _, e, h => by
    cases h with
    | cons h1 h2 =>
      cases h1
      unfold intsOf at e
      cases q : intsOf r with
      | none => rw [q] at e; cases e
      | some cs =>
        rw [q] at e; cases e
        rw [intsOf_ok q h2]; rfl
  | .none :: _, _, _, e, _ => by cases e
  | .bool _ :: _, _, _, e, _ => by cases e
  | .str _ :: _, _, _, e, _ => by cases e
  | .list _ :: _, _, _, e, _ => by cases e
  | .tuple _ :: _, _, _, e, _ => by cases e
  | .dict _ :: _, _, _, e, _ => by cases e
theorem boolsOf_map {α : Type} (f : α → Bool) : ∀ l : List α, boolsOf (l.map fun x => .bool (f x)) = some (l.map f)
  | [] => rfl
  | x :: r => by
    show (boolsOf (r.map fun x => .bool (f x))).map (f x :: ·) = _
    rw [boolsOf_map f r]; rfl
theorem intsOf_map {α : Type} (f : α → Int) : ∀ l : List α, intsOf (l.map fun x => .int (f x)) = some (l.map f)
  | [] => rfl
  | x :: r => by
    show (intsOf (r.map fun x => .int (f x))).map (f x :: ·) = _
    rw [intsOf_map f r]; rfl
def gAll : PyData → Option PyData
  | .list xs => (boolsOf xs).map fun bs => .bool (bs.all id)
  | _ => none
def gAny : PyData → Option PyData
  | .list xs => (boolsOf xs).map fun bs => .bool (bs.any id)
  | _ => none
theorem cald_all (hc : X.calm = true) : CalD X (.builtin "all") gAll := by
  intro pins s σ H xs us Q I r h
  obtain ⟨v, p, q, rfl, hp, e, k⟩ := h
  unfold gAll at e
  split at e
  · obtain ⟨bs, e1, e2⟩ := Option.map_eq_some_iff.mp e
    subst e2
    obtain ⟨a, vs, rfl, ha, da⟩ := hp
    have := boolsOf_ok e1 da; subst this
    exact cr_all hc pins s σ H _ us Q I r ⟨_, bs, rfl, ha, k _ _ (Same.refl _) (.bl _)⟩
  · cases e
theorem cald_any (hc : X.calm = true) : CalD X (.builtin "any") gAny := by
  intro pins s σ H xs us Q I r h
  obtain ⟨v, p, q, rfl, hp, e, k⟩ := h
  unfold gAny at e
  split at e
  · obtain ⟨bs, e1, e2⟩ := Option.map_eq_some_iff.mp e
    subst e2
    obtain ⟨a, vs, rfl, ha, da⟩ := hp
    have := boolsOf_ok e1 da; subst this
    exact cr_any hc pins s σ H _ us Q I r ⟨_, bs, rfl, ha, k _ _ (Same.refl _) (.bl _)⟩
  · cases e
def gSum : PyData → Option PyData
  | .list xs => (intsOf xs).map fun bs => .int bs.sum
  | _ => none
theorem cald_sum (hc : X.calm = true) : CalD X (.builtin "sum") gSum := by
  intro pins s σ H xs us Q I r h
  obtain ⟨v, p, q, rfl, hp, e, k⟩ := h
  unfold gSum at e
  split at e
  · obtain ⟨bs, e1, e2⟩ := Option.map_eq_some_iff.mp e
    subst e2
    obtain ⟨a, vs, rfl, ha, da⟩ := hp
    have := intsOf_ok e1 da; subst this
    exact cr_sum hc pins s σ H _ us Q I r ⟨_, bs, rfl, ha, k _ _ (Same.refl _) (.int _)⟩
  · cases e
def gMax2 : PyData → PyData → Option PyData
  | .int i, .int j => some (.int (if j > i then j else i))
  | _, _ => none
def gMin2 : PyData → PyData → Option PyData
  | .int i, .int j => some (.int (if j < i then j else i))
  | _, _ => none
theorem cald_max2 (hc : X.calm = true) : CalD2 X (.builtin "max") gMax2 := by
  intro pins s σ H xs us Q I r h
  obtain ⟨v, u, p, q, t, rfl, hp, hq, e, k⟩ := h
  unfold gMax2 at e
  split at e
  · cases e
    have := hp.int; have := hq.int; subst v u
    exact call_max2 hc pins s σ H _ us Q I r ⟨_, _, rfl, k _ _ (Same.refl _) (.int _)⟩
  · cases e
theorem cald_min2 (hc : X.calm = true) : CalD2 X (.builtin "min") gMin2 := by
  intro pins s σ H xs us Q I r h
  obtain ⟨v, u, p, q, t, rfl, hp, hq, e, k⟩ := h
  unfold gMin2 at e
  split at e
  · cases e
    have := hp.int; have := hq.int; subst v u
    exact call_min2 hc pins s σ H _ us Q I r ⟨_, _, rfl, k _ _ (Same.refl _) (.int _)⟩
  · cases e
/-! isinstance(x, T), T a written built-in class -/
def gIsa (T : String) : PyData → Option Bool := fun p => match T with
  | "int" => some p.isInt
  | "bool" => some p.isBool
  | "str" => some p.isStr
  | "list" => some p.isList
  | "tuple" => some p.isTuple
  | _ => none
theorem cald_isa {T : String} : CallR X (.builtin "isinstance") (fun vs H Q => ∃ v p b, vs = [v, .ty T] ∧ DpT X.K H v p ∧ gIsa T p = some b ∧ Res X.K H (.bool b) Q) := by
  intro pins s σ H xs us Q I r h
  obtain ⟨v, p, b, rfl, hp, e, k⟩ := h
  cases r with
  | cons r1 r2 =>
    cases r2 with
    | cons r2 r3 =>
      cases r3
      cases r2
      obtain ⟨as, rr⟩ := reads_of I hp r1
      unfold gIsa at e
      split at e
      · cases e; exact PySem.W.isinstance_int_data rr fun tk _ => res_bool (I.tok tk) k
      · cases e; exact PySem.W.isinstance_bool_data rr fun tk _ => res_bool (I.tok tk) k
      · cases e; exact PySem.W.isinstance_str_data rr fun tk _ => res_bool (I.tok tk) k
      · cases e; exact PySem.W.isinstance_list_data rr fun tk _ => res_bool (I.tok tk) k
      · cases e; exact PySem.W.isinstance_tuple_data rr fun tk _ => res_bool (I.tok tk) k
      · cases e
/-! repr(x) -/
mutual
theorem noDict_plain : ∀ d : PyData, d.plain = true → d.hasDict = false
  | .none, _ => rfl
  | .bool _, _ => rfl
  | .int _, _ => rfl
  | .str _, _ => rfl
  | .list xs, h => noDict_plainAll xs h
  | .tuple xs, h => noDict_plainAll xs h
  | .dict _, h => by cases h
theorem noDict_plainAll : ∀ ds : List PyData, PyData.plainAll ds = true → PyData.hasDictAll ds = false
  | [], _ => rfl
  | x :: xs, h => by
    have h' : x.plain = true ∧ PyData.plainAll xs = true := by simpa [PyData.plainAll] using h
    show (x.hasDict || PyData.hasDictAll xs) = false
    rw [noDict_plain x h'.1, noDict_plainAll xs h'.2]; rfl
end
def gRepr (p : PyData) : Option PyData := if p.showable = true ∧ p.depth ≤ 32 ∧ p.shown.length ≤ sizeLine then some (.str p.shown) else none
theorem cald_repr (hg : X.A.guards = some []) (hu : X.A.units + 64 < cLine) : CalD X (.builtin "repr") gRepr := by
  intro pins s σ H xs us Q I r h
  obtain ⟨v, p, q, rfl, hp, e, k⟩ := h
  unfold gRepr at e
  split at e
  · rename_i hc
    obtain ⟨h1, h3, h4⟩ := hc
    cases e
    cases r with
    | cons r1 r2 =>
      cases r2
      obtain ⟨as, rr⟩ := reads_of I hp r1
      have hn := noDict_plain p hp.plain
      cases rr with
      | none => exact P.repr_of_none (res_str (I.tok _) k)
      | bool b => exact P.repr_of_bool (res_str (I.tok _) k)
      | int i t => exact P.repr_of_int (of_decide_eq_true h1) (res_str (I.tok _) k)
      | str x t => exact P.repr_of_str (res_str (I.tok _) k) h4
      | list a1 a2 a3 a4 =>
        exact repr_of_reads' (Reads.list a1 a2 a3 a4) h1 (fun e => by rw [hn] at e; cases e) hg (by omega) (fun _ _ z => z) (fun h' u tk hk => res_str (I.kept (t' := tk) hk) k) h4
      | tuple a1 a2 a3 a4 =>
        exact repr_of_reads' (Reads.tuple a1 a2 a3 a4) h1 (fun e => by rw [hn] at e; cases e) hg (by omega) (fun _ _ z => z) (fun h' u tk hk => res_str (I.kept (t' := tk) hk) k) h4
      | dict _ _ _ _ _ => exact Bool.noConfusion (hn.symm.trans (show PyData.hasDict (.dict _) = true from rfl))
  · cases e

/-! sorted(xs) -/
def alikeB (ds : List PyData) : Bool := ds.all fun d => ds.all fun e => PySem.W.alike d e
theorem alikeB_ok {ds : List PyData} (h : alikeB ds = true) : PySem.W.AllAlike ds := fun d hd e he => List.all_eq_true.mp (List.all_eq_true.mp h d hd) e he
def tupB : PyData → Bool
  | .tuple _ => true
  | _ => false
def plnB : PyData → Bool
  | .none => false
  | .tuple _ => false
  | _ => true
def sortB (ds : List PyData) : Bool := ds.all tupB || ds.all plnB
theorem sorts_of {prog : Program} {w : World} {A : Around} {s : Shared} {vs : List Value} {ds : List PyData} (e : PySem.W.EachIs (fun v d => ∃ as, Reads s.heap v d as) vs ds) (hal : PySem.W.AllAlike ds) (h : sortB ds = true) (hu : ∀ d, d ∈ ds → A.units + d.depth < cLine) : PySem.W.SortsAt prog w A s (PySem.W.dataKind s.heap ds) vs := by
  rcases Bool.or_eq_true_iff.mp h with h | h
  · refine PySem.W.dl_sortsAt e hal (fun d hd => ?_) hu
    have := List.all_eq_true.mp h d hd
    unfold tupB at this
    split at this
    · exact ⟨_, rfl⟩
    · cases this
  · refine PySem.W.SortsAt.data e hal (.inr fun d hd => ?_) hu
    have := List.all_eq_true.mp h d hd
    refine ⟨fun e => ?_, fun xs e => ?_⟩
    · subst e; cases this
    · subst e; cases this
def depB (ds : List PyData) : Bool := ds.all fun d => decide (d.depth ≤ 32)
/-! ### merge sort, by fuel (the kernel can run it) -/
def mgF {α : Type} (le : α → α → Bool) : Nat → List α → List α → List α
  | 0, _, _ => []
  | _ + 1, [], ys => ys
  | _ + 1, x :: xs, [] => x :: xs
  | n + 1, x :: xs, y :: ys => match le x y with
    | true => x :: mgF le n xs (y :: ys)
    | false => y :: mgF le n (x :: xs) ys
def msF {α : Type} (le : α → α → Bool) : Nat → List α → List α
  | 0, _ => []
  | _ + 1, [] => []
  | _ + 1, [a] => [a]
  | n + 1, a :: b :: xs => mgF le (xs.length + 3) (msF le n ((a :: b :: xs).take ((xs.length + 3) / 2))) (msF le n ((a :: b :: xs).drop ((xs.length + 3) / 2)))
theorem mgF_eq {α : Type} (le : α → α → Bool) : ∀ (n : Nat) (xs ys : List α), xs.length + ys.length < n → mgF le n xs ys = List.merge xs ys le
  | 0, _, _, h => by omega
  | n + 1, [], ys, _ => by simp [mgF]
  | n + 1, x :: xs, [], _ => by simp [mgF]
  | n + 1, x :: xs, y :: ys, h => by
    simp only [List.length_cons] at h
    rw [List.cons_merge_cons]
    unfold mgF
    cases e : le x y with
    | true => simp [mgF_eq le n xs (y :: ys) (by simp only [List.length_cons]; omega)]
    | false => simp [mgF_eq le n (x :: xs) ys (by simp only [List.length_cons]; omega)]
theorem msF_eq {α : Type} (le : α → α → Bool) : ∀ (n : Nat) (xs : List α), xs.length < n → msF le n xs = List.mergeSort xs le
  | 0, _, h => by omega
  | n + 1, [], _ => by simp [msF]
  | n + 1, [a], _ => by simp [msF]
  | n + 1, a :: b :: xs, h => by
    simp only [List.length_cons] at h
    have h1 := msF_eq le n ((a :: b :: xs).take ((xs.length + 3) / 2)) (by simp only [List.length_take, List.length_cons]; omega)
    have h2 := msF_eq le n ((a :: b :: xs).drop ((xs.length + 3) / 2)) (by simp only [List.length_drop, List.length_cons]; omega)
    rw [List.mergeSort]
    unfold msF
    rw [h1, h2, mgF_eq]
    · simp [List.MergeSort.Internal.splitInTwo_fst, List.MergeSort.Internal.splitInTwo_snd]
    · rw [List.length_mergeSort, List.length_mergeSort]
      simp only [List.length_take, List.length_drop, List.length_cons]
      omega
/-- what sorted gives -/
def srt (ds : List PyData) : List PyData := msF (PySem.W.dataLe false id) (ds.length + 1) ds
theorem srt_ms (ds : List PyData) : srt ds = ds.mergeSort (PySem.W.dataLe false id) := msF_eq _ _ _ (Nat.lt_succ_self _)
def okSort (ds : List PyData) : Bool := alikeB ds && (sortB ds && (depB ds && decide (ds.length ≤ sizeLine)))
theorem each_of {K : PySem.W.Frag} {H : Hp} : ∀ {us : List Value} {vs : List V} {ds : List PyData}, Vals vs us → DpAll K H vs ds → PySem.W.EachIs (fun u d => ∃ v, RelV v u ∧ Dp K H v d) us ds
  | _, _, [], r, h => by cases h; cases r; exact .nil
  | _, _, d :: ds, r, h => by
    cases h with
    | cons h1 h2 =>
      cases r with
      | cons r1 r2 => exact .cons ⟨_, r1, h1⟩ (each_of r2 h2)
theorem of_each {K : PySem.W.Frag} {H : Hp} : ∀ {us : List Value} {ds : List PyData}, PySem.W.EachIs (fun u d => ∃ v, RelV v u ∧ Dp K H v d) us ds → ∃ vs, Vals vs us ∧ DpAll K H vs ds
  | _, [], .nil => ⟨[], .nil, .nil⟩
  | _, d :: ds, .cons ⟨v, r, h⟩ t => by
    obtain ⟨vs, r2, h2⟩ := of_each t
    exact ⟨v :: vs, .cons r r2, .cons h h2⟩
theorem each_len {α β : Type} {R : α → β → Prop} {as : List α} {bs : List β} (h : PySem.W.EachIs R as bs) : as.length = bs.length := h.length
theorem sortingHeap_push_old {h h' : Heap} {vs : List Value} {b : Addr} {o : Obj} (e : h'.get? b = some o) : (PySem.W.sortingHeap (h'.push (seqObj "list" vs.toArray 0)) h'.objs.size vs).get? b = some o :=
  PySem.W.sortingHeap_old (Nat.ne_of_lt (Heap.lt_size e)) (Heap.get?_push_of_some _ e)
/-- sorted(x), x collected -/
theorem sorted_coll {pins : List (Addr × Obj)} {σ : L2.St} {H : Hp} {s : Shared} {Q : VK} {x : Value} {vv : List V} {ds : List PyData} (I : Inv X pins σ H s) (hd : DpAll [] (Fz H) vv ds) (hs : okSort ds = true) (hu : X.A.units + 64 < cLine)
    (ha : argsOk "sorted" ⟨[x], []⟩)
    (hc : ∀ R : List Value → Shared → Prop, (∀ vs h' tk, Vals vv vs → (∀ b o, s.heap.get? b = some o → h'.get? b = some o) → R vs { s with heap := h', toks := tk }) → wpAny (model X.prog X.w) X.A.in1 (collect x) R X.xe s)
    (q : Res X.K H (.list (srt ds)) Q) : wpAny (model X.prog X.w) X.A (call (.builtin "sorted") [x]) (EP X pins σ Q) X.xe s := by
  unfold okSort at hs
  simp only [Bool.and_eq_true, decide_eq_true_eq] at hs
  obtain ⟨s1, s2, s3, s4⟩ := hs
  refine Calls.call_function_entry kind_sorted plain_sorted entry_sorted ha ?_
  unfold Builtin.«sorted»
  refine wpAny_bind (m := checkCount "sorted" 1 1 _) (wpAny_pure ?_)
  refine wpAny_bind (hc _ fun vs h' tk hv k => ?_)
  have hlen : vs.length = ds.length := by rw [← hv.length, dpAll_len hd]
  have ev := each_of hv hd
  refine wpAny_bind (wpAny_newList ?_ (by omega))
  have er : PySem.W.EachIs (fun v b => ∃ as, Reads (PySem.W.sortingHeap (h'.push (seqObj "list" vs.toArray 0)) h'.objs.size vs) v (id b) as) vs ds := by
    refine ev.mono fun u d ⟨v, rv, dv⟩ => ?_
    obtain ⟨as, r⟩ := Dp.reads I d v u (dp_up _ _ dv) rv
    exact ⟨as, PyProof.Rows.Reads.keeps (fun b o e => sortingHeap_push_old (h := s.heap) (k b o e)) r⟩
  have dep : ∀ d, d ∈ ds → d.depth ≤ 32 := fun d hd => of_decide_eq_true (List.all_eq_true.mp s3 d hd)
  have S := sorts_of (prog := X.prog) (w := X.w) (A := X.A.in1.in1) (s := { s with heap := PySem.W.sortingHeap (h'.push (seqObj "list" vs.toArray 0)) h'.objs.size vs, toks := tk }) er (alikeB_ok s1) s2
    (fun d hd => by have := dep d hd; show X.A.units + 1 + 1 + d.depth < cLine; omega)
  have hat : (h'.push (seqObj "list" vs.toArray 0)).get? h'.objs.size = some (seqObj "list" vs.toArray 0) := Heap.get?_push_size _ rfl
  refine wpAny_bind (wpAny_holding (wpAny_call_entry slot_list_sort ⟨_, hat, rfl⟩ entry_list_sort
    (PySem.W.list_sort_vals (s := { s with heap := h'.push (seqObj "list" vs.toArray 0), toks := tk }) hat S (by omega) ⟨.none, rfl, wpAny_pure ⟨_, rfl, ?_⟩⟩) (args_list_sort _)))
  have out := PySem.W.sortVals_data (enc := id) false ev er (by simpa using alikeB_ok s1)
  rw [List.map_id] at out
  obtain ⟨vo, ro, dp⟩ := of_each out
  rw [← srt_ms] at dp
  have I1 : Inv X pins σ H { s with heap := h', toks := tk } := I.kept (t' := tk) k
  have hn : H h'.objs.size = none := I1.hok.fresh (Nat.le_refl _)
  obtain ⟨ep, hep⟩ := PyProof.Rows.sortedHeap_at (out := (PySem.W.sortVals (PySem.W.dataKind (PySem.W.sortingHeap (h'.push (seqObj "list" vs.toArray 0)) h'.objs.size vs) ds) false vs vs).toArray) hat
  have lv : vo.length ≤ sizeLine := by
    have l1 := dpAll_len dp
    have l2 : (srt ds).length = ds.length := by rw [srt_ms]; exact (List.mergeSort_perm _ _).length_eq
    omega
  have J : Inv X pins σ (upd H h'.objs.size (.lst vo)) _ := I1.laid (t' := tk) (a := h'.objs.size) (o := .lst vo)
    (h' := PyProof.Rows.sortedHeap (h'.push (seqObj "list" vs.toArray 0)) h'.objs.size vs (PySem.W.sortVals (PySem.W.dataKind (PySem.W.sortingHeap (h'.push (seqObj "list" vs.toArray 0)) h'.objs.size vs) ds) false vs vs).toArray)
    (fun b u e => by
      have e' : h'.get? b = some u := e
      rw [PyProof.Rows.sortedHeap_old (Nat.ne_of_lt (Heap.lt_size e')) (by rw [size_push']; exact Nat.lt_succ_of_lt (Heap.lt_size e'))]
      exact Heap.get?_push_of_some _ e') (Nat.le_refl _) ⟨lv, _, ep, ro, hep⟩
  obtain ⟨od, J'⟩ := Inv.lock J upd_same trivial
  rw [upd_upd] at J'
  have g : Same H (upd H h'.objs.size (.frz od (.lst vo))) := grow_new hn
  exact ⟨.ref _, _, J', rfl, q _ _ g (.lst (.inl (.inr ⟨od, Fz_frz upd_same⟩)) (dpAll_mono (FS.same g) _ _ dp))⟩
def gSorted : PyData → Option PyData
  | .list ds => if okSort ds = true then some (.list (srt ds)) else none
  | .tuple ds => if okSort ds = true then some (.list (srt ds)) else none
  | _ => none
theorem cald_sorted (hu : X.A.units + 64 < cLine) : CalD X (.builtin "sorted") gSorted := by
  intro pins s σ H xs us Q I r h
  obtain ⟨v, p, q, rfl, hp, e, k⟩ := h
  unfold gSorted at e
  split at e
  · split at e
    · rename_i hs
      cases e
      obtain ⟨a, vs, rfl, ha, da⟩ := hp
      rw [Vals.ref1 r]
      obtain ⟨its, dd, n, sl, rv, z, eo⟩ := list_obj I ha
      exact sorted_coll I da hs hu (args_sorted1 _) (fun R hR => wpAny_collect_seq a (.inl rfl) eo rfl rfl (fun h' kk => by rw [show its.toArray.toList = its by simp]; exact hR its h' s.toks rv kk) (by rw [List.size_toArray]; have := rv.length; omega)) k
    · cases e
  · split at e
    · rename_i hs
      cases e
      obtain ⟨a, vs, rfl, ha, da⟩ := hp.tup
      rw [Vals.ref1 r]
      obtain ⟨its, rv, z, ⟨o, eo, e1, n, e2⟩⟩ := tup_obj I (sqT_up ha)
      exact sorted_coll I da hs hu (args_sorted1 _) (fun R hR => wpAny_collect_seq a (.inr rfl) eo e1 e2 (fun h' kk => by rw [show its.toArray.toList = its by simp]; exact hR its h' s.toks rv kk) (by rw [List.size_toArray]; have := rv.length; omega)) k
    · cases e
  · cases e
end
end DL

set_option Elab.async false
set_option linter.all false
set_option maxRecDepth 100000
set_option maxHeartbeats 2000000
namespace DL
open PySem PySem.Spec PyProof.Rows L2

/-! ### the state's changes -/
section
variable {K : PySem.W.Frag} {H0 H H' : Hp} {φ0 φ ψ : List Addr} {s : ST} {σ : L2.St}
theorem mem_get {l : List Addr} {a : Addr} (h : a ∈ l) : ∃ n : Nat, l[n]? = some a := by
  obtain ⟨n, hn, e⟩ := List.getElem_of_mem h
  exact ⟨n, by rw [← e]; exact List.getElem?_eq_getElem hn⟩
theorem Sim.gsome (S : Sim K H0 φ0 φ ψ H s σ) {a : Addr} (h : a ∈ φ) : ∃ o, H a = some o ∧ Fz H a = none := by
  obtain ⟨n, e⟩ := mem_get h
  obtain ⟨o, eo⟩ := get_of_len S.g.len.symm e
  exact (S.g.at_ n a o e eo).some
theorem Sim.lsome (S : Sim K H0 φ0 φ ψ H s σ) {a : Addr} (h : a ∈ ψ) : ∃ o, H a = some o := by
  obtain ⟨n, e⟩ := mem_get h
  obtain ⟨o, eo⟩ := get_of_len S.ll.symm e
  exact (S.l n a o e eo).some
theorem Sim.old0 (S : Sim K H0 φ0 φ ψ H s σ) {a : Addr} (h : a ∈ φ0) : a ∈ φ := by
  obtain ⟨n, e⟩ := mem_get h
  exact List.mem_of_getElem? (S.pre n a e)
/-- a new address is new to all -/
theorem Sim.fresh (S : Sim K H0 φ0 φ ψ H s σ) {p : Addr} (h : H p = none) : p ∉ φ ∧ p ∉ ψ ∧ H0 p = none := by
  refine ⟨fun z => ?_, fun z => ?_, ?_⟩
  · obtain ⟨o, e, _⟩ := S.gsome z
    rw [h] at e; cases e
  · obtain ⟨o, e⟩ := S.lsome z
    rw [h] at e; cases e
  · cases e : H0 p with
    | none => rfl
    | some o =>
      by_cases z : p ∈ φ0
      · obtain ⟨o', e', _⟩ := S.gsome (S.old0 z)
        rw [h] at e'; cases e'
      · have := S.kp p o e z
        rw [h] at this; cases this
/-- a local object more -/
theorem Sim.newL (S : Sim K H0 φ0 φ ψ H s σ) {p : Addr} {u : HO} {o : LO} (hp : H p = none) (e : ∀ H', H' = upd H p u → RepL K H' p o) : Sim K H0 φ0 φ (ψ ++ [p]) (upd H p u) { s with L := s.L ++ [o] } σ := by
  obtain ⟨n1, n2, n3⟩ := S.fresh hp
  have g : Same H (upd H p u) := grow_new hp
  have S' := S.grow g
  refine { g := S'.g, ll := by simp [S.ll], nl := ?_, gl := fun a h z => ?_, l := fun n a o' h1 h2 => ?_, sl := S.sl, s := fun i d h => ?_, pre := S.pre, fr := fun a h => ?_, new := S.new, kp := S'.kp, old := S.old }
  · exact List.nodup_append.mpr ⟨S.nl, (by simp), fun a ha b hb => by simp at hb; subst hb; intro z; subst z; exact n2 ha⟩
  · rcases List.mem_append.mp z with z | z
    · exact S.gl a h z
    · have : a = p := by simpa using z
      subst this; exact n1 h
  · by_cases hn : n < ψ.length
    · rw [List.getElem?_append_left hn] at h1
      have h2' : s.L[n]? = some o' := by
        have hn' : n < s.L.length := by rw [← S.ll]; exact hn
        have : (s.L ++ [o])[n]? = some o' := h2
        rw [List.getElem?_append_left hn'] at this; exact this
      exact S'.l n a o' h1 h2'
    · have hl : n < (ψ ++ [p]).length := (List.getElem?_eq_some_iff.mp h1).1
      have e1 : n = ψ.length := by simp at hl; omega
      subst e1
      have e2 : a = p := by simpa using h1.symm
      subst e2
      have e3 : o' = o := by
        have : (s.L ++ [o])[ψ.length]? = some o' := h2
        rw [S.ll] at this
        simpa using this.symm
      subst e3
      exact e _ rfl
  · obtain ⟨v, h1, h2⟩ := S'.s i d h
    exact ⟨v, h1, h2.mono (Same.refl _) (Pre.refl _) (Pre.app _ _)⟩
  · rcases List.mem_append.mp h with h | h
    · exact S.fr a h
    · have : a = p := by simpa using h
      subst this; exact n3
/-- a local object written -/
theorem Sim.setL (S : Sim K H0 φ0 φ ψ H s σ) {n : Nat} {a : Addr} {u : HO} {o : LO} (ha : ψ[n]? = some a) (hf : Fz H a = none) (e : ∀ H', H' = upd H a u → RepL K H' a o) : Sim K H0 φ0 φ ψ (upd H a u) { s with L := s.L.set n o } σ := by
  have f : FS H (upd H a u) := FS.upd hf
  have am : a ∈ ψ := List.mem_of_getElem? ha
  have nφ : a ∉ φ := fun z => S.gl a z am
  refine { g := ⟨S.g.len, S.g.nd, fun m b o' h1 h2 => ?_⟩, ll := by simp [S.ll], nl := S.nl, gl := S.gl, l := fun m b o' h1 h2 => ?_, sl := S.sl, s := fun i d h => ?_, pre := S.pre, fr := S.fr, new := S.new, kp := fun b o' h hb => ?_, old := S.old }
  · have hb : b ≠ a := fun z => nφ (by rw [← z]; exact List.mem_of_getElem? h1)
    exact (S.g.at_ m b o' h1 h2).mono f (Pre.refl _) (upd_ne hb)
  · by_cases hm : m = n
    · subst hm
      have e1 : b = a := Option.some.inj (h1.symm.trans ha)
      subst e1
      have hl : m < s.L.length := by rw [← S.ll]; exact (List.getElem?_eq_some_iff.mp ha).1
      have h2' : (s.L.set m o)[m]? = some o' := h2
      rw [List.getElem?_set_self hl] at h2'
      cases h2'
      exact e _ rfl
    · have h2' : (s.L.set n o)[m]? = some o' := h2
      rw [List.getElem?_set_ne (Ne.symm hm)] at h2'
      have hb : b ≠ a := fun z => hm (by
        subst z
        obtain ⟨l1, q1⟩ := List.getElem?_eq_some_iff.mp h1
        obtain ⟨l2, q2⟩ := List.getElem?_eq_some_iff.mp ha
        exact (List.getElem_inj S.nl).mp (q1.trans q2.symm))
      exact (S.l m b o' h1 h2').mono f (upd_ne hb)
  · obtain ⟨v, h1, h2⟩ := S.s i d h
    exact ⟨v, h1, h2.mono f (Pre.refl _) (Pre.refl _)⟩
  · have hba : b ≠ a := fun z => by rw [z, S.fr a am] at h; cases h
    rw [upd_ne hba]; exact S.kp b o' h hb
theorem Ext.setL (S : Sim K H0 φ0 φ ψ H s σ) {a : Addr} {u : HO} (hf : Fz H a = none) : Ext φ ψ H φ ψ (upd H a u) := ⟨FS.upd hf, Pre.refl _, Pre.refl _⟩
theorem Ext.newL {p : Addr} {u : HO} (hp : H p = none) : Ext φ ψ H φ (ψ ++ [p]) (upd H p u) := ⟨FS.same (grow_new hp), Pre.refl _, Pre.app _ _⟩
/-- a shared object written -/
theorem Sim.setG (S : Sim K H0 φ0 φ ψ H s σ) {n : Nat} {a : Addr} {u : HO} {o : GO} (ha : φ[n]? = some a) (e : ∀ H', H' = upd H a u → RepG K H' φ a o) : Sim K H0 φ0 φ ψ (upd H a u) { s with G := s.G.set n o } σ := by
  have am : a ∈ φ := List.mem_of_getElem? ha
  obtain ⟨_, _, hf⟩ := S.gsome am
  have f : FS H (upd H a u) := FS.upd hf
  have nψ : a ∉ ψ := fun z => S.gl a am z
  refine { g := ⟨by simp [S.g.len], S.g.nd, fun m b o' h1 h2 => ?_⟩, ll := S.ll, nl := S.nl, gl := S.gl, l := fun m b o' h1 h2 => ?_, sl := S.sl, s := fun i d h => ?_, pre := S.pre, fr := S.fr, new := S.new, kp := fun b o' h hb => ?_, old := S.old }
  · by_cases hm : m = n
    · subst hm
      have e1 : b = a := Option.some.inj (h1.symm.trans ha)
      subst e1
      have hl : m < s.G.length := by rw [← S.g.len]; exact (List.getElem?_eq_some_iff.mp ha).1
      have h2' : (s.G.set m o)[m]? = some o' := h2
      rw [List.getElem?_set_self hl] at h2'
      cases h2'
      exact e _ rfl
    · have h2' : (s.G.set n o)[m]? = some o' := h2
      rw [List.getElem?_set_ne (Ne.symm hm)] at h2'
      have hb : b ≠ a := fun z => hm (by
        subst z
        obtain ⟨l1, q1⟩ := List.getElem?_eq_some_iff.mp h1
        obtain ⟨l2, q2⟩ := List.getElem?_eq_some_iff.mp ha
        exact (List.getElem_inj S.g.nd).mp (q1.trans q2.symm))
      exact (S.g.at_ m b o' h1 h2').mono f (Pre.refl _) (upd_ne hb)
  · have hb : b ≠ a := fun z => nψ (by rw [← z]; exact List.mem_of_getElem? h1)
    exact (S.l m b o' h1 h2).mono f (upd_ne hb)
  · obtain ⟨v, h1, h2⟩ := S.s i d h
    exact ⟨v, h1, h2.mono f (Pre.refl _) (Pre.refl _)⟩
  · have hba : b ≠ a := fun z => by
      rcases S.new a am with z' | z'
      · rw [z] at hb; exact hb z'
      · rw [z, z'] at h; cases h
    rw [upd_ne hba]; exact S.kp b o' h hb
/-- a shared object more -/
theorem Sim.newG (S : Sim K H0 φ0 φ ψ H s σ) {p : Addr} {u : HO} {o : GO} (hp : H p = none) (e : ∀ H', H' = upd H p u → RepG K H' (φ ++ [p]) p o) : Sim K H0 φ0 (φ ++ [p]) ψ (upd H p u) { s with G := s.G ++ [o] } σ := by
  obtain ⟨n1, n2, n3⟩ := S.fresh hp
  have g : Same H (upd H p u) := grow_new hp
  have S' := S.grow g
  refine { g := ⟨by simp [S.g.len], ?_, fun n a o' h1 h2 => ?_⟩, ll := S.ll, nl := S.nl, gl := fun a h z => ?_, l := S'.l, sl := S.sl, s := fun i d h => ?_, pre := S.pre.trans (Pre.app _ _), fr := S.fr, new := fun a h => ?_, kp := S'.kp, old := S.old }
  · exact List.nodup_append.mpr ⟨S.g.nd, (by simp), fun a ha b hb => by simp at hb; subst hb; intro z; subst z; exact n1 ha⟩
  · by_cases hn : n < φ.length
    · rw [List.getElem?_append_left hn] at h1
      have h2' : s.G[n]? = some o' := by
        have hn' : n < s.G.length := by rw [← S.g.len]; exact hn
        have : (s.G ++ [o])[n]? = some o' := h2
        rw [List.getElem?_append_left hn'] at this; exact this
      exact (S'.g.at_ n a o' h1 h2').mono (Same.refl _) (Pre.app _ _) rfl
    · have hl : n < (φ ++ [p]).length := (List.getElem?_eq_some_iff.mp h1).1
      have e1 : n = φ.length := by simp at hl; omega
      subst e1
      have e2 : a = p := by simpa using h1.symm
      subst e2
      have e3 : o' = o := by
        have : (s.G ++ [o])[φ.length]? = some o' := h2
        rw [S.g.len] at this
        simpa using this.symm
      subst e3
      exact e _ rfl
  · rcases List.mem_append.mp h with h | h
    · exact S.gl a h z
    · have : a = p := by simpa using h
      subst this; exact n2 z
  · obtain ⟨v, h1, h2⟩ := S'.s i d h
    exact ⟨v, h1, h2.mono (Same.refl _) (Pre.app _ _) (Pre.refl _)⟩
  · rcases List.mem_append.mp h with h | h
    · exact S.new a h
    · have : a = p := by simpa using h
      subst this; exact .inr n3
theorem Ext.newG {p : Addr} {u : HO} (hp : H p = none) : Ext φ ψ H (φ ++ [p]) ψ (upd H p u) := ⟨FS.same (grow_new hp), Pre.app _ _, Pre.refl _⟩
/-- a slot stored -/
theorem Sim.setS (S : Sim K H0 φ0 φ ψ H s σ) {i : Nat} {d : D} {v : V} (r : RepD K H φ ψ d v) : Sim K H0 φ0 φ ψ H { s with S := s.S.set i (some d) } (σ.set i (some v)) :=
  { S with
    sl := by simp [S.sl]
    s := fun j d' h => by
      have h' : (s.S.set i (some d))[j]? = some (some d') := h
      by_cases hj : j = i
      · subst hj
        have hl : j < s.S.length := by
          have := (List.getElem?_eq_some_iff.mp h').1
          simpa using this
        rw [List.getElem?_set_self hl] at h'
        cases h'
        exact ⟨v, by rw [List.getElem?_set_self (by rw [← S.sl]; exact hl)], r⟩
      · rw [List.getElem?_set_ne (Ne.symm hj)] at h'
        obtain ⟨w, h1, h2⟩ := S.s j d' h'
        exact ⟨w, by rw [List.getElem?_set_ne (Ne.symm hj)]; exact h1, h2⟩ }
theorem Sim.clrS (S : Sim K H0 φ0 φ ψ H s σ) (i : Nat) : Sim K H0 φ0 φ ψ H { s with S := s.S.set i none } (σ.set i none) :=
  { S with
    sl := by simp [S.sl]
    s := fun j d' h => by
      have h' : (s.S.set i none)[j]? = some (some d') := h
      by_cases hj : j = i
      · subst hj
        have hl : j < s.S.length := by
          have := (List.getElem?_eq_some_iff.mp h').1
          simpa using this
        rw [List.getElem?_set_self hl] at h'
        cases h'
      · rw [List.getElem?_set_ne (Ne.symm hj)] at h'
        obtain ⟨w, h1, h2⟩ := S.s j d' h'
        exact ⟨w, by rw [List.getElem?_set_ne (Ne.symm hj)]; exact h1, h2⟩ }
end

/-! ### expressions -/
structure Ctx (X : Cx) (n : Nat) : Prop where
  calm : X.calm = true
  gd : X.A.guards = some []
  rm : Room n X.A
theorem Ctx.hu {X : Cx} {n : Nat} (C : Ctx X n) : X.A.units + 64 < cLine := C.rm.units
/-- data, if there is any -/
def opt (o : Option PyData) (s : ST) : Out D := match o with
  | some r => .ok (.py r) s
  | none => .no
theorem opt_ok {K : PySem.W.Frag} {W : WX} {H0 H : Hp} {φ0 φ ψ : List Addr} {s : ST} {σ : L2.St} {o : Option PyData} {Q : VK} (S : Sim K H0 φ0 φ ψ H s σ) (h : OutE K W H0 φ0 φ ψ H σ Q (opt o s)) : ∃ r, o = some r ∧ Res K H r Q := by
  cases o with
  | none => exact (show False from h).elim
  | some r => exact ⟨r, rfl, fun w H' e d => h φ ψ H' w (Ext.grow e) (S.grow e) d⟩
def eVar (i : Nat) : FE := fun s => match s.S[i]? with
  | some (some d) => .ok d s
  | _ => .no
def eC (p : PyData) : FE := fun s => .ok (.py p) s
def eGlob (x : Str) : FE := fun s => .ok (.glob x) s
def eBin (g : PyData → PyData → Option PyData) (fa fb : FE) : FE := fun s => (fa s).bind fun x s1 => (fb s1).bind fun y s2 => opt ((rd s2 x).bind fun p => (rd s2 y).bind fun q => g p q) s2
def eUn (g : PyData → Option PyData) (fa : FE) : FE := fun s => (fa s).bind fun x s1 => opt ((rd s1 x).bind g) s1
section
variable {X : Cx} {W : WX} {a b c : Expr} {fa fb fc : FE} {pos : Pos}
theorem ped_var {i : Nat} {x : Str} (h : PE X (.Name x pos) (tVar i)) : PED X W (.Name x pos) (eVar i) := PE.imp h fun σ H Q ⟨H0, φ0, φ, ψ, s, S, o⟩ => by
  unfold eVar at o
  split at o
  · rename_i d e
    obtain ⟨v, h1, h2⟩ := S.s i d e
    exact ⟨v, h1, o φ ψ H v (Ext.refl _ _ _) S h2⟩
  · exact o.elim
theorem ped_c {p : PyData} {v : V} (h : PE X a (tC v)) (d : ∀ H, Dp [] H v p) : PED X W a (eC p) := PE.imp h fun σ H Q ⟨H0, φ0, φ, ψ, s, S, o⟩ => o φ ψ H v (Ext.refl _ _ _) S (d _)
theorem ped_int {i : Int} {j : Nat} : PED X W (.Constant (.int i) j pos) (eC (.int i)) := ped_c pe_int fun _ => .int i
theorem ped_bl {i : Bool} {j : Nat} : PED X W (.Constant (.bool i) j pos) (eC (.bool i)) := ped_c pe_bl fun _ => .bl i
theorem ped_non {j : Nat} : PED X W (.Constant .none j pos) (eC .none) := ped_c pe_non fun _ => .non
theorem ped_str {x : Str} {j : Nat} : PED X W (.Constant (.str x) j pos) (eC (.str x)) := ped_c pe_str fun _ => .str x
/-- a module's int -/
theorem ped_gint {x : Str} {i : Int} (hg : Gl X x) (hm : ∃ t, X.mg x = some (.int i t)) (hd : (x == ("__debug__" : Str)) = false := by decide) : PED X W (.Name x pos) (eC (.int i)) := by
  obtain ⟨t, ht⟩ := hm
  exact ped_c (pe_glob (v := .int i) hg ht ⟨_, rfl⟩ hd) fun _ => .int i
theorem ped_glob {x : Str} (hg : Gl X x) (hm : X.mg x = some (.ref (He.ga X.K x))) (hd : (x == ("__debug__" : Str)) = false := by decide) : PED X W (.Name x pos) (eGlob x) :=
  PE.imp (pe_glob (v := .ref (He.ga X.K x)) hg hm rfl hd) fun σ H Q ⟨H0, φ0, φ, ψ, s, S, o⟩ => o φ ψ H _ (Ext.refl _ _ _) S rfl
/-- what two values are, to be read -/
theorem bin_read {K : PySem.W.Frag} {W : WX} {H0 H1 H2 : Hp} {φ0 φ1 ψ1 φ2 ψ2 : List Addr} {s2 : ST} {σ : L2.St} {x y : D} {v u : V} {g : PyData → PyData → Option PyData} {Q : VK}
    (r1 : RepD K H1 φ1 ψ1 x v) (e2 : Ext φ1 ψ1 H1 φ2 ψ2 H2) (S2 : Sim K H0 φ0 φ2 ψ2 H2 s2 σ) (r2 : RepD K H2 φ2 ψ2 y u) (o : OutE K W H0 φ0 φ2 ψ2 H2 σ Q (opt ((rd s2 x).bind fun p => (rd s2 y).bind fun q => g p q) s2)) :
    ∃ p q r, DpT K H2 v p ∧ DpT K H2 u q ∧ g p q = some r ∧ Res K H2 r Q := by
  obtain ⟨r, e, k⟩ := opt_ok S2 o
  obtain ⟨p, ep, e⟩ := Option.bind_eq_some_iff.mp e
  obtain ⟨q, eq, e⟩ := Option.bind_eq_some_iff.mp e
  exact ⟨p, q, r, rd_ok S2 (r1.ext e2) ep, rd_ok S2 r2 eq, e, k⟩
theorem ped_bin {op : Operator} {g : PyData → PyData → Option PyData} (ho : OpD X (binaryOp op) g) (ha : PED X W a fa) (hb : PED X W b fb) : PED X W (.BinOp a op b pos) (eBin g fa fb) :=
  PE.imp (pe_op ho ha hb) fun σ H Q ⟨H0, φ0, φ, ψ, s, S, o⟩ => ⟨H0, φ0, φ, ψ, s, S, OutE.bE o fun x s1 φ1 ψ1 H1 v1 e1 S1 r1 o1 =>
    ⟨H0, φ0, φ1, ψ1, s1, S1, OutE.bE o1 fun y s2 φ2 ψ2 H2 v2 e2 S2 r2 o2 => bin_read r1 e2 S2 r2 o2⟩⟩
theorem ped_cmp {op : CmpOp} {g : PyData → PyData → Option PyData} (ho : OpD X (compareOp op) g) (ha : PED X W a fa) (hb : PED X W b fb) (hm : behindInMarks op b = false := by first | exact nomark _ (by decide) (by decide) | rfl) : PED X W (.Compare a [op] [b] pos) (eBin g fa fb) :=
  PE.imp (pe_cmpR ho ha hb hm) fun σ H Q ⟨H0, φ0, φ, ψ, s, S, o⟩ => ⟨H0, φ0, φ, ψ, s, S, OutE.bE o fun x s1 φ1 ψ1 H1 v1 e1 S1 r1 o1 =>
    ⟨H0, φ0, φ1, ψ1, s1, S1, OutE.bE o1 fun y s2 φ2 ψ2 H2 v2 e2 S2 r2 o2 => bin_read r1 e2 S2 r2 o2⟩⟩
/-! tests -/
def asB (x : D) (s : ST) : Out Bool := match x with
  | .py (.bool b) => .ok b s
  | _ => .no
def toB (f : FE) : FT := fun s => (f s).bind asB
/-- a bool that is known -/
theorem asB_ok {K : PySem.W.Frag} {W : WX} {H0 H : Hp} {φ0 φ ψ : List Addr} {s1 : ST} {σ : L2.St} {x : D} {v : V} {Q : Bool → Hp → Prop} (S : Sim K H0 φ0 φ ψ H s1 σ) (r : RepD K H φ ψ x v)
    (o : OutT K W H0 φ0 φ ψ H σ Q (asB x s1)) : ∃ k, v = .bl k ∧ x = .py (.bool k) ∧ Q k H := by
  unfold asB at o
  split at o
  · rename_i b
    have r' : Dp [] (Fz H) v (.bool b) := r
    cases r'
    exact ⟨b, rfl, rfl, o φ ψ H (Ext.refl _ _ _) S⟩
  · exact o.elim
/-- a reading whose value is asked for its truth -/
theorem toB_of {K : PySem.W.Frag} {W : WX} {H0 H : Hp} {φ0 φ ψ : List Addr} {s : ST} {σ : L2.St} {f : FE} {Q : Bool → Hp → Prop} (o : OutT K W H0 φ0 φ ψ H σ Q (toB f s)) :
    OutE K W H0 φ0 φ ψ H σ (fun v H' => ∃ k, v = .bl k ∧ Q k H') (f s) := OutT.bE o fun x s1 φ1 ψ1 H1 v1 e1 S1 r1 o1 => by
  obtain ⟨k, h1, _, h2⟩ := asB_ok S1 r1 o1
  exact ⟨k, h1, h2⟩
theorem ptd_cmp {op : CmpOp} {g : PyData → PyData → Option PyData} (ho : OpD X (compareOp op) g) (ha : PED X W a fa) (hb : PED X W b fb) (hm : behindInMarks op b = false := by first | exact nomark _ (by decide) (by decide) | rfl) : PTD X W (.Compare a [op] [b] pos) (toB (eBin g fa fb)) :=
  PT.imp (pt_cmpR ho ha hb hm) fun σ H Q ⟨H0, φ0, φ, ψ, s, S, o⟩ => ⟨H0, φ0, φ, ψ, s, S, OutE.bE (toB_of o) fun x s1 φ1 ψ1 H1 v1 e1 S1 r1 o1 =>
      ⟨H0, φ0, φ1, ψ1, s1, S1, OutE.bE o1 fun y s2 φ2 ψ2 H2 v2 e2 S2 r2 o2 => bin_read r1 e2 S2 r2 o2⟩⟩
/-- a < b < c -/
def eChain (g g' : PyData → PyData → Option PyData) (fa fb fc : FE) : FE := fun s => (fa s).bind fun x s1 => (fb s1).bind fun y s2 => match (rd s2 x).bind fun p => (rd s2 y).bind fun q => g p q with
  | some (.bool true) => (fc s2).bind fun z s3 => opt ((rd s3 y).bind fun p => (rd s3 z).bind fun q => g' p q) s3
  | some (.bool false) => .ok (.py (.bool false)) s2
  | _ => .no
theorem chain_read {K : PySem.W.Frag} {W : WX} {H0 H1 H2 : Hp} {φ0 φ1 ψ1 φ2 ψ2 : List Addr} {s2 : ST} {σ : L2.St} {x y : D} {v u : V} {g g' : PyData → PyData → Option PyData} {fc : FE} {Q : VK}
    (r1 : RepD K H1 φ1 ψ1 x v) (e2 : Ext φ1 ψ1 H1 φ2 ψ2 H2) (S2 : Sim K H0 φ0 φ2 ψ2 H2 s2 σ) (r2 : RepD K H2 φ2 ψ2 y u)
    (o : OutE K W H0 φ0 φ2 ψ2 H2 σ Q (match (rd s2 x).bind fun p => (rd s2 y).bind fun q => g p q with
      | some (.bool true) => (fc s2).bind fun z s3 => opt ((rd s3 y).bind fun p => (rd s3 z).bind fun q => g' p q) s3
      | some (.bool false) => .ok (.py (.bool false)) s2
      | _ => .no)) :
    ∃ p q r, DpT K H2 v p ∧ DpT K H2 u q ∧ g p q = some r ∧ Res K H2 r (fun z H3 => ∃ k, z = .bl k ∧ if k = true then tE K W fc σ H3 (fun w H4 => ∃ p q r, DpT K H4 u p ∧ DpT K H4 w q ∧ g' p q = some r ∧ Res K H4 r Q) else Q (.bl false) H3) := by
  cases ep : rd s2 x with
  | none => rw [ep] at o; exact o.elim
  | some p =>
    cases eq : rd s2 y with
    | none => rw [ep, eq] at o; exact o.elim
    | some q =>
      rw [ep, eq] at o
      simp only [Option.bind_some] at o
      cases eg : g p q with
      | none => rw [eg] at o; exact o.elim
      | some r =>
        rw [eg] at o
        refine ⟨p, q, r, rd_ok S2 (r1.ext e2) ep, rd_ok S2 r2 eq, eg, ?_⟩
        intro w H3 gr dw
        cases r with
        | bool b =>
          cases dw
          cases b with
          | true =>
            refine ⟨true, rfl, ?_⟩
            rw [if_pos rfl]
            have S3 := S2.grow gr
            have x3 : Ext φ2 ψ2 H2 φ2 ψ2 H3 := Ext.grow gr
            refine ⟨H0, φ0, φ2, ψ2, s2, S3, OutE.bE (OutE.ext x3 o) fun z s3 φ3 ψ3 H4 v3 e3 S4 r3 o3 => ?_⟩
            exact bin_read (r2.ext x3) e3 S4 r3 o3
          | false =>
            refine ⟨false, rfl, ?_⟩
            rw [if_neg Bool.false_ne_true]
            exact o φ2 ψ2 H3 (.bl false) (Ext.grow gr) (S2.grow gr) (.bl false)
        | _ => exact o.elim
theorem ped_chain {op op' : CmpOp} {g g' : PyData → PyData → Option PyData} (ho : OpD X (compareOp op) g) (ho' : OpD X (compareOp op') g') (ha : PED X W a fa) (hb : PED X W b fb) (hc : PED X W c fc)
    (hm : lastMarks [op, op'] [b, c] = false := by with_unfolding_all rfl) : PED X W (.Compare a [op, op'] [b, c] pos) (eChain g g' fa fb fc) :=
  PE.imp (pe_chain ho ho' ha hb hc hm) fun σ H Q ⟨H0, φ0, φ, ψ, s, S, o⟩ => ⟨H0, φ0, φ, ψ, s, S, OutE.bE o fun x s1 φ1 ψ1 H1 v1 e1 S1 r1 o1 =>
    ⟨H0, φ0, φ1, ψ1, s1, S1, OutE.bE o1 fun y s2 φ2 ψ2 H2 v2 e2 S2 r2 o2 => chain_read r1 e2 S2 r2 o2⟩⟩
theorem ptd_chain {op op' : CmpOp} {g g' : PyData → PyData → Option PyData} (ho : OpD X (compareOp op) g) (ho' : OpD X (compareOp op') g') (ha : PED X W a fa) (hb : PED X W b fb) (hc : PED X W c fc)
    (hm : lastMarks [op, op'] [b, c] = false := by with_unfolding_all rfl) : PTD X W (.Compare a [op, op'] [b, c] pos) (toB (eChain g g' fa fb fc)) :=
  PT.imp (pt_chain ho ho' ha hb hc hm) fun σ H Q ⟨H0, φ0, φ, ψ, s, S, o⟩ => ⟨H0, φ0, φ, ψ, s, S, OutE.bE (toB_of o) fun x s1 φ1 ψ1 H1 v1 e1 S1 r1 o1 =>
    ⟨H0, φ0, φ1, ψ1, s1, S1, OutE.bE o1 fun y s2 φ2 ψ2 H2 v2 e2 S2 r2 o2 => chain_read r1 e2 S2 r2 o2⟩⟩
end
end DL

set_option Elab.async false
set_option linter.all false
set_option maxRecDepth 100000
set_option maxHeartbeats 2000000
namespace DL
open PySem PySem.Spec PyProof.Rows L2
/-! ### truth -/
def truB : PyData → Option Bool
  | .none => some false
  | .bool b => some b
  | .int i => some (i != 0)
  | .str x => if x.length ≤ sizeLine then some ((x.length : Int) != 0) else none
  | .list xs => some (!xs.isEmpty)
  | .tuple xs => some (!xs.isEmpty)
  | .dict _ => none
theorem isEmpty_dp {K : PySem.W.Frag} {H : Hp} {vs : List V} {ds : List PyData} (h : DpAll K H vs ds) : vs.isEmpty = ds.isEmpty := by
  cases h <;> rfl
theorem truB_ok {K : PySem.W.Frag} {H : Hp} {v : V} {p : PyData} {b : Bool} (h : DpT K H v p) (e : truB p = some b) : TruV K v H b := by
  cases p with
  | none => have := h.non; subst v; cases e; rfl
  | bool b => have := h.bl; subst v; cases e; rfl
  | int i => have := h.int; subst v; cases e; rfl
  | str x =>
    have := h.str; subst v
    dsimp only [truB] at e
    split at e
    · rename_i hz; cases e; exact ⟨hz, rfl⟩
    · cases e
  | list xs =>
    obtain ⟨a, vs, rfl, ha, da⟩ := h
    cases e
    exact .inl ⟨vs, ha, by rw [isEmpty_dp da]⟩
  | tuple xs =>
    obtain ⟨a, vs, rfl, ha, da⟩ := h.tup
    cases e
    exact .inr (.inl ⟨vs, sqT_up ha, by rw [isEmpty_dp da]⟩)
  | dict _ => cases e
def optB (o : Option Bool) (s : ST) : Out Bool := match o with
  | some b => .ok b s
  | none => .no
def tru (x : D) (s : ST) : Out Bool := optB ((rd s x).bind truB) s
def toT (f : FE) : FT := fun s => (f s).bind tru
section
variable {X : Cx} {W : WX} {a b c : Expr} {fa fb fc : FE} {pos : Pos}
theorem tru_read {K : PySem.W.Frag} {W : WX} {H0 H : Hp} {φ0 φ ψ : List Addr} {s : ST} {σ : L2.St} {x : D} {v : V} {Q : Bool → Hp → Prop} (S : Sim K H0 φ0 φ ψ H s σ) (r : RepD K H φ ψ x v) (o : OutT K W H0 φ0 φ ψ H σ Q (tru x s)) : ∃ k, TruV K v H k ∧ Q k H := by
  unfold tru at o
  cases e : (rd s x).bind truB with
  | none => rw [e] at o; exact o.elim
  | some k =>
    rw [e] at o
    obtain ⟨p, ep, e⟩ := Option.bind_eq_some_iff.mp e
    exact ⟨k, truB_ok (rd_ok S r ep) e, o φ ψ H (Ext.refl _ _ _) S⟩
/-- an expression of any other kind, as a test -/
theorem ptd_val (ha : PED X W a fa) (he : ∀ whole, isTrue a X.env whole = (do let v ← whole; standAt a.pos; holding [v] (truthy v)) := by intro _; rfl) : PTD X W a (toT fa) :=
  PT.imp (pt_truth ha he) fun σ H Q ⟨H0, φ0, φ, ψ, s, S, o⟩ => ⟨H0, φ0, φ, ψ, s, S, OutT.bE o fun x s1 φ1 ψ1 H1 v1 e1 S1 r1 o1 => tru_read S1 r1 o1⟩
def tAndD (f g : FT) : FT := fun s => (f s).bind fun b s1 => match b with
  | true => g s1
  | false => .ok false s1
def tOrD (f g : FT) : FT := fun s => (f s).bind fun b s1 => match b with
  | true => .ok true s1
  | false => g s1
def tNotD (f : FT) : FT := fun s => (f s).bind fun b s1 => .ok (!b) s1
abbrev PWD (X : Cx) (W : WX) (e : Expr) (f : FT) : Prop := PW X e (tT X.K W f)
variable {ta tb : FT} {rest : List Expr}
theorem pwd_one_and (h : PTD X W a ta) : PWD X W (.BoolOp .And [a] pos) ta := pw_and1 h
theorem pwd_one_or (h : PTD X W a ta) : PWD X W (.BoolOp .Or [a] pos) ta := pw_or1 h
theorem pwd_and (ha : PTD X W a ta) (hb : PWD X W (.BoolOp .And (b :: rest) pos) tb) : PWD X W (.BoolOp .And (a :: b :: rest) pos) (tAndD ta tb) :=
  PW.imp (pw_and ha hb) fun σ H Q ⟨H0, φ0, φ, ψ, s, S, o⟩ => ⟨H0, φ0, φ, ψ, s, S, OutT.bT o fun k s1 φ1 ψ1 H1 e1 S1 o1 => by
    cases k with
    | true => rw [if_pos rfl]; exact ⟨H0, φ0, φ1, ψ1, s1, S1, o1⟩
    | false => rw [if_neg Bool.false_ne_true]; exact o1 φ1 ψ1 H1 (Ext.refl _ _ _) S1⟩
theorem pwd_or (ha : PTD X W a ta) (hb : PWD X W (.BoolOp .Or (b :: rest) pos) tb) : PWD X W (.BoolOp .Or (a :: b :: rest) pos) (tOrD ta tb) :=
  PW.imp (pw_or ha hb) fun σ H Q ⟨H0, φ0, φ, ψ, s, S, o⟩ => ⟨H0, φ0, φ, ψ, s, S, OutT.bT o fun k s1 φ1 ψ1 H1 e1 S1 o1 => by
    cases k with
    | true => rw [if_pos rfl]; exact o1 φ1 ψ1 H1 (Ext.refl _ _ _) S1
    | false => rw [if_neg Bool.false_ne_true]; exact ⟨H0, φ0, φ1, ψ1, s1, S1, o1⟩⟩
theorem ptd_w (h : PWD X W a ta) : PTD X W a ta := PW.pt h
theorem ptd_not (ha : PTD X W a ta) : PTD X W (.UnaryOp .Not a pos) (tNotD ta) :=
  PT.imp (pt_not ha) fun σ H Q ⟨H0, φ0, φ, ψ, s, S, o⟩ => ⟨H0, φ0, φ, ψ, s, S, OutT.bT o fun k s1 φ1 ψ1 H1 e1 S1 o1 => o1 φ1 ψ1 H1 (Ext.refl _ _ _) S1⟩
/-! as values -/
def eNot (f : FE) : FE := fun s => (f s).bind fun x s1 => (tru x s1).bind fun k s2 => .ok (.py (.bool (!k))) s2
def eAnd (f g : FE) : FE := fun s => (f s).bind fun x s1 => (asB x s1).bind fun k s2 => match k with
  | true => g s2
  | false => .ok (.py (.bool false)) s2
def eOr (f g : FE) : FE := fun s => (f s).bind fun x s1 => (asB x s1).bind fun k s2 => match k with
  | true => .ok (.py (.bool true)) s2
  | false => g s2
theorem tru_bind {K : PySem.W.Frag} {W : WX} {H0 H : Hp} {φ0 φ ψ : List Addr} {s : ST} {σ : L2.St} {x : D} {v : V} {g : Bool → ST → Out D} {Q : VK} (S : Sim K H0 φ0 φ ψ H s σ) (r : RepD K H φ ψ x v) (o : OutE K W H0 φ0 φ ψ H σ Q ((tru x s).bind g)) : ∃ k, TruV K v H k ∧ OutE K W H0 φ0 φ ψ H σ Q (g k s) := by
  unfold tru at o
  cases e : (rd s x).bind truB with
  | none => rw [e] at o; exact o.elim
  | some k =>
    rw [e] at o
    obtain ⟨p, ep, e⟩ := Option.bind_eq_some_iff.mp e
    exact ⟨k, truB_ok (rd_ok S r ep) e, o⟩
theorem asB_bind {K : PySem.W.Frag} {W : WX} {H0 H : Hp} {φ0 φ ψ : List Addr} {s : ST} {σ : L2.St} {x : D} {v : V} {g : Bool → ST → Out D} {Q : VK} (S : Sim K H0 φ0 φ ψ H s σ) (r : RepD K H φ ψ x v) (o : OutE K W H0 φ0 φ ψ H σ Q ((asB x s).bind g)) : ∃ k, v = .bl k ∧ OutE K W H0 φ0 φ ψ H σ Q (g k s) := by
  unfold asB at o
  split at o
  · rename_i k
    have r' : Dp [] (Fz H) v (.bool k) := r
    cases r'
    exact ⟨k, rfl, o⟩
  · exact o.elim
theorem ped_not (ha : PED X W a fa) : PED X W (.UnaryOp .Not a pos) (eNot fa) :=
  PE.imp (pe_notT ha) fun σ H Q ⟨H0, φ0, φ, ψ, s, S, o⟩ => ⟨H0, φ0, φ, ψ, s, S, OutE.bE o fun x s1 φ1 ψ1 H1 v1 e1 S1 r1 o1 => by
    obtain ⟨k, h1, h2⟩ := tru_bind S1 r1 o1
    exact ⟨k, h1, h2 φ1 ψ1 H1 _ (Ext.refl _ _ _) S1 (.bl _)⟩⟩
theorem ped_one {op : BoolOp} (h : PED X W a fa) : PED X W (.BoolOp op [a] pos) fa := pe_one h
theorem ped_and (ha : PED X W a fa) (hb : PED X W (.BoolOp .And (b :: rest) pos) fb) : PED X W (.BoolOp .And (a :: b :: rest) pos) (eAnd fa fb) :=
  PE.imp (pe_and ha hb) fun σ H Q ⟨H0, φ0, φ, ψ, s, S, o⟩ => ⟨H0, φ0, φ, ψ, s, S, OutE.bE o fun x s1 φ1 ψ1 H1 v1 e1 S1 r1 o1 => by
    obtain ⟨k, h1, h2⟩ := asB_bind S1 r1 o1
    refine ⟨k, h1, ?_⟩
    cases k with
    | true => rw [if_pos rfl]; exact ⟨H0, φ0, φ1, ψ1, s1, S1, h2⟩
    | false => rw [if_neg Bool.false_ne_true]; exact h2 φ1 ψ1 H1 _ (Ext.refl _ _ _) S1 (.bl _)⟩
theorem ped_or (ha : PED X W a fa) (hb : PED X W (.BoolOp .Or (b :: rest) pos) fb) : PED X W (.BoolOp .Or (a :: b :: rest) pos) (eOr fa fb) :=
  PE.imp (pe_or ha hb) fun σ H Q ⟨H0, φ0, φ, ψ, s, S, o⟩ => ⟨H0, φ0, φ, ψ, s, S, OutE.bE o fun x s1 φ1 ψ1 H1 v1 e1 S1 r1 o1 => by
    obtain ⟨k, h1, h2⟩ := asB_bind S1 r1 o1
    refine ⟨k, h1, ?_⟩
    cases k with
    | true => rw [if_pos rfl]; exact h2 φ1 ψ1 H1 _ (Ext.refl _ _ _) S1 (.bl _)
    | false => rw [if_neg Bool.false_ne_true]; exact ⟨H0, φ0, φ1, ψ1, s1, S1, h2⟩⟩
def eIf (t : FT) (f g : FE) : FE := fun s => (t s).bind fun k s1 => match k with
  | true => f s1
  | false => g s1
theorem ped_if (hc : PTD X W c ta) (ha : PED X W a fa) (hb : PED X W b fb) : PED X W (.IfExp c a b pos) (eIf ta fa fb) :=
  PE.imp (pe_ifExp hc ha hb) fun σ H Q ⟨H0, φ0, φ, ψ, s, S, o⟩ => ⟨H0, φ0, φ, ψ, s, S, OutE.bT o fun k s1 φ1 ψ1 H1 e1 S1 o1 => by
    cases k with
    | true => rw [if_pos rfl]; exact ⟨H0, φ0, φ1, ψ1, s1, S1, o1⟩
    | false => rw [if_neg Bool.false_ne_true]; exact ⟨H0, φ0, φ1, ψ1, s1, S1, o1⟩⟩
/-! -a -/
def gNeg : PyData → Option PyData
  | .int i => some (.int (-i))
  | _ => none
theorem ped_neg (ha : PED X W a fa) : PED X W (.UnaryOp .USub a pos) (eUn gNeg fa) :=
  PE.imp (pe_un un_neg ha) fun σ H Q ⟨H0, φ0, φ, ψ, s, S, o⟩ => ⟨H0, φ0, φ, ψ, s, S, OutE.bE o fun x s1 φ1 ψ1 H1 v1 e1 S1 r1 o1 => by
    obtain ⟨r, e, k⟩ := opt_ok S1 o1
    obtain ⟨p, ep, e⟩ := Option.bind_eq_some_iff.mp e
    have h := rd_ok S1 r1 ep
    unfold gNeg at e
    split at e
    · cases e
      have := h.int; subst v1
      exact ⟨_, rfl, k _ _ (Same.refl _) (.int _)⟩
    · cases e⟩
/-! x[i] -/
def gIx : PyData → PyData → Option PyData
  | .list xs, .int i => atI xs i
  | .tuple xs, .int i => atI xs i
  | .str z, .int i => if z.length ≤ sizeLine then (atI z.cps.toList i).map fun c => .str ⟨#[c]⟩ else none
  | _, _ => none
theorem atI_dp {K : PySem.W.Frag} {H : Hp} {vs : List V} {ds : List PyData} {i : Int} {d : PyData} (h : DpAll K H vs ds) (e : atI ds i = some d) : ∃ v, atI vs i = some v ∧ Dp K H v d := by
  unfold atI at e ⊢
  rw [dpAll_len h]
  obtain ⟨j, ej, e⟩ := Option.bind_eq_some_iff.mp e
  obtain ⟨v, e1, e2⟩ := dpAll_get h e
  exact ⟨v, by rw [ej]; exact e1, e2⟩
theorem ped_ix (ha : PED X W a fa) (hb : PED X W b fb) (hs : PlainIx b := by intro _ _; rfl) : PED X W (.Subscript a b pos) (eBin gIx fa fb) :=
  PE.imp (pe_ix ix_seq ha hb hs) fun σ H Q ⟨H0, φ0, φ, ψ, s, S, o⟩ => ⟨H0, φ0, φ, ψ, s, S, OutE.bE o fun x s1 φ1 ψ1 H1 v1 e1 S1 r1 o1 =>
    ⟨H0, φ0, φ1, ψ1, s1, S1, OutE.bE o1 fun y s2 φ2 ψ2 H2 v2 e2 S2 r2 o2 => by
      obtain ⟨p, q, r, hp, hq, e, k⟩ := bin_read r1 e2 S2 r2 o2
      unfold gIx at e
      split at e
      · obtain ⟨aa, vs, rfl, hA, da⟩ := hp
        have := hq.int; subst v2
        obtain ⟨v, ev, dv⟩ := atI_dp da e
        exact .inl ⟨_, vs, _, v, rfl, rfl, hA, ev, k _ _ (Same.refl _) dv⟩
      · obtain ⟨aa, vs, rfl, hA, da⟩ := hp.tup
        have := hq.int; subst v2
        obtain ⟨v, ev, dv⟩ := atI_dp da e
        exact .inr (.inl ⟨_, vs, _, v, rfl, rfl, sqT_up hA, ev, k _ _ (Same.refl _) dv⟩)
      · split at e
        · rename_i hz
          obtain ⟨cc, ec, er⟩ := Option.map_eq_some_iff.mp e
          subst er
          have := hp.str; have := hq.int; subst v1 v2
          exact .inr (.inr ⟨_, _, cc, rfl, rfl, hz, ec, k _ _ (Same.refl _) (.str _)⟩)
        · cases e
      · cases e⟩⟩
end
end DL

set_option Elab.async false
set_option linter.all false
set_option maxRecDepth 100000
set_option maxHeartbeats 2000000
namespace DL
open PySem PySem.Spec PyProof.Rows L2
/-! ### freezing -/
def tFrz (te : TE) : TE := fun σ H Q => te σ H fun v H1 => Q v H1 ∨ ∃ a vs, v = .ref a ∧ H1 a = some (.lst vs) ∧ ∀ od, Q v (upd H1 a (.frz od (.lst vs)))
theorem pe_frz {X : Cx} {e : Expr} {te : TE} (he : PE X e te) : PE X e (tFrz te) := ⟨fun pins s σ H Q I h => thn (he.run pins s σ H _ I h) fun u s1 ⟨v, H1, I1, r1, q⟩ => by
  rcases q with q | ⟨a, vs, e1, hH, q⟩
  · exact ⟨v, H1, I1, r1, q⟩
  · obtain ⟨od, J⟩ := Inv.lock I1 hH trivial
    exact ⟨v, _, J, r1, q od⟩⟩
def frz (x : D) (s : ST) : Out D := match x with
  | .loc n => match s.L[n]? with
    | some (.lst ds) => .ok (.py (.list ds)) { s with L := s.L.set n (.flst ds) }
    | some (.flst ds) => .ok (.py (.list ds)) s
    | some (.ktup ds) => .ok (.py (.tuple ds)) s
    | _ => .ok x s
  | _ => .ok x s
def eFrz (f : FE) : FE := fun s => (f s).bind frz
section
variable {X : Cx} {W : WX} {a b c e : Expr} {fa fb fc fe : FE} {pos : Pos} {es : List Expr} {fs : FA}
theorem frz_read {K : PySem.W.Frag} {H0 H : Hp} {φ0 φ ψ : List Addr} {s : ST} {σ : L2.St} {x : D} {v : V} {Q : VK} (S : Sim K H0 φ0 φ ψ H s σ) (r : RepD K H φ ψ x v) (o : OutE K W H0 φ0 φ ψ H σ Q (frz x s)) :
    Q v H ∨ ∃ a vs, v = .ref a ∧ H a = some (.lst vs) ∧ ∀ od, Q v (upd H a (.frz od (.lst vs))) := by
  unfold frz at o
  split at o
  · rename_i n
    obtain ⟨a, ha, rfl⟩ := id r
    split at o
    · rename_i ds el
      obtain ⟨vs, h1, h2⟩ := S.l n a _ ha el
      refine .inr ⟨a, vs, rfl, h1, fun od => ?_⟩
      have hf : Fz H a = none := Fz_lst h1
      have f : FS H (upd H a (.frz od (.lst vs))) := FS.upd hf
      exact o φ ψ _ _ (Ext.setL S hf) (S.setL ha hf fun H' e => by subst e; exact ⟨od, vs, upd_same, dpAll_mono f _ _ h2⟩) (.lst (.inl (.inr ⟨od, Fz_frz upd_same⟩)) (dpAll_mono f _ _ h2))
    · rename_i ds el
      obtain ⟨od, vs, h1, h2⟩ := S.l n a _ ha el
      exact .inl (o φ ψ H _ (Ext.refl _ _ _) S (.lst (.inl (.inr ⟨od, Fz_frz h1⟩)) h2))
    · rename_i ds el
      obtain ⟨od, vs, h1, ⟨_, hf⟩, h2⟩ := S.l n a _ ha el
      exact .inl (o φ ψ H _ (Ext.refl _ _ _) S (.tup (.inl (.inr ⟨od, Fz_ktup h1 hf⟩)) h2))
    · exact .inl (o φ ψ H _ (Ext.refl _ _ _) S r)
  · exact .inl (o φ ψ H _ (Ext.refl _ _ _) S r)
theorem ped_frz (ha : PED X W a fa) : PED X W a (eFrz fa) := PE.imp (pe_frz ha) fun σ H Q ⟨H0, φ0, φ, ψ, s, S, o⟩ => ⟨H0, φ0, φ, ψ, s, S, OutE.bE o fun x s1 φ1 ψ1 H1 v1 e1 S1 r1 o1 => frz_read S1 r1 o1⟩
/-! ### argument lists, displays -/
def aNil : FA := fun s => .ok [] s
def aCons (f : FE) (g : FA) : FA := fun s => (f s).bind fun x s1 => (g s1).bind fun xs s2 => .ok (x :: xs) s2
theorem pad_nil : PAD X W [] aNil := PA.imp pa_nil fun σ H Q ⟨H0, φ0, φ, ψ, s, S, o⟩ => o φ ψ H [] (Ext.refl _ _ _) S .nil
theorem pad_cons (he : PED X W e fe) (hr : PAD X W es fs) (hs : starEach (e :: es) X.env = (false, eval e X.env) :: starEach es X.env := by rfl) : PAD X W (e :: es) (aCons fe fs) :=
  PA.imp (pa_cons he hr hs) fun σ H Q ⟨H0, φ0, φ, ψ, s, S, o⟩ => ⟨H0, φ0, φ, ψ, s, S, OutA.bE o fun x s1 φ1 ψ1 H1 v1 e1 S1 r1 o1 =>
    ⟨H0, φ0, φ1, ψ1, s1, S1, OutA.bA o1 fun xs s2 φ2 ψ2 H2 vs e2 S2 r2 o2 => o2 φ2 ψ2 H2 _ (Ext.refl _ _ _) S2 (.cons (r1.ext e2) r2)⟩⟩
/-- all of them read only -/
def pys : List D → Option (List PyData)
  | [] => some []
  | .py p :: r => (pys r).map (p :: ·)
  | _ :: _ => none
theorem pys_ok {K : PySem.W.Frag} {H : Hp} {φ ψ : List Addr} : ∀ {ds : List D} {vs : List V} {ps : List PyData}, RepA K H φ ψ ds vs → pys ds = some ps → DpAll [] (Fz H) vs ps
  | [], _, _, r, e => by cases r; cases e; exact .nil
  | .py p :: ds, _, _, r, e => by
    cases r with
    | cons r1 r2 =>
      obtain ⟨qs, e1, e2⟩ := Option.map_eq_some_iff.mp e
      subst e2
      exact .cons r1 (pys_ok r2 e1)
  | .obj _ :: _, _, _, _, e => by cases e
  | .glob _ :: _, _, _, _, e => by cases e
  | .loc _ :: _, _, _, _, e => by cases e
def optL {α : Type} (o : Option (List PyData)) (g : List PyData → ST → Out α) (s : ST) : Out α := match o with
  | some ps => if ps.length ≤ sizeLine then g ps s else .no
  | none => .no
def eTup (f : FA) : FE := fun s => (f s).bind fun ds s1 => optL (pys ds) (fun ps s2 => .ok (.py (.tuple ps)) s2) s1
def eLst (f : FA) : FE := fun s => (f s).bind fun ds s1 => optL (pys ds) (fun ps s2 => .ok (.py (.list ps)) s2) s1
def eLstL (f : FA) : FE := fun s => (f s).bind fun ds s1 => optL (pys ds) (fun ps s2 => .ok (.loc s2.L.length) { s2 with L := s2.L ++ [.lst ps] }) s1
theorem optL_E {K : PySem.W.Frag} {H0 H : Hp} {φ0 φ ψ : List Addr} {s : ST} {σ : L2.St} {o : Option (List PyData)} {g : List PyData → ST → Out D} {Q : VK} (h : OutE K W H0 φ0 φ ψ H σ Q (optL o g s)) : ∃ ps, o = some ps ∧ ps.length ≤ sizeLine ∧ OutE K W H0 φ0 φ ψ H σ Q (g ps s) := by
  unfold optL at h
  split at h
  · split at h
    · rename_i hz; exact ⟨_, rfl, hz, h⟩
    · exact h.elim
  · exact h.elim
theorem ped_tup {k : Nat} (h : PAD X W es fs) : PED X W (.Tuple es k pos) (eTup fs) :=
  PE.imp (pe_tup h) fun σ H Q ⟨H0, φ0, φ, ψ, s, S, o⟩ => ⟨H0, φ0, φ, ψ, s, S, OutE.bA o fun ds s1 φ1 ψ1 H1 vs e1 S1 r1 o1 => by
    obtain ⟨ps, e, hz, q⟩ := optL_E o1
    have da := pys_ok r1 e
    refine ⟨by rw [dpAll_len da]; exact hz, fun p hp => ?_⟩
    have g : Same H1 (upd H1 p (.tup vs)) := grow_new hp
    exact q φ1 ψ1 _ _ (Ext.grow g) (S1.grow g) (.tup (.inl (.inl (Fz_tup upd_same))) (dpAll_mono (FS.same g) _ _ da))⟩
theorem ped_lst (h : PAD X W es fs) : PED X W (.List es pos) (eLst fs) :=
  PE.imp (pe_frz (pe_lst h)) fun σ H Q ⟨H0, φ0, φ, ψ, s, S, o⟩ => ⟨H0, φ0, φ, ψ, s, S, OutE.bA o fun ds s1 φ1 ψ1 H1 vs e1 S1 r1 o1 => by
    obtain ⟨ps, e, hz, q⟩ := optL_E o1
    have da := pys_ok r1 e
    refine ⟨by rw [dpAll_len da]; exact hz, fun p hp => .inr ⟨p, vs, rfl, upd_same, fun od => ?_⟩⟩
    rw [upd_upd]
    have g : Same H1 (upd H1 p (.frz od (.lst vs))) := grow_new hp
    exact q φ1 ψ1 _ _ (Ext.grow g) (S1.grow g) (.lst (.inl (.inr ⟨od, Fz_frz upd_same⟩)) (dpAll_mono (FS.same g) _ _ da))⟩
theorem newL_val {K : PySem.W.Frag} {H0 H : Hp} {φ0 φ ψ : List Addr} {s : ST} {σ : L2.St} {p : Addr} (S : Sim K H0 φ0 φ ψ H s σ) : (ψ ++ [p])[s.L.length]? = some p := by rw [← S.ll]; simp
theorem ped_lstL (h : PAD X W es fs) : PED X W (.List es pos) (eLstL fs) :=
  PE.imp (pe_lst h) fun σ H Q ⟨H0, φ0, φ, ψ, s, S, o⟩ => ⟨H0, φ0, φ, ψ, s, S, OutE.bA o fun ds s1 φ1 ψ1 H1 vs e1 S1 r1 o1 => by
    obtain ⟨ps, e, hz, q⟩ := optL_E o1
    have da := pys_ok r1 e
    refine ⟨by rw [dpAll_len da]; exact hz, fun p hp => ?_⟩
    have g : Same H1 (upd H1 p (.lst vs)) := grow_new hp
    exact q φ1 _ _ _ (Ext.newL hp) (S1.newL hp fun H' e => by subst e; exact ⟨vs, upd_same, dpAll_mono (FS.same g) _ _ da⟩) ⟨p, newL_val S1, rfl⟩⟩
/-! ### slices -/
def cutP (xs : List PyData) (lo hi : Option Int) : List PyData := (xs.drop (HT.sIx xs.length 0 lo)).take (HT.sIx xs.length xs.length hi - HT.sIx xs.length 0 lo)
theorem cut_dp {K : PySem.W.Frag} {H : Hp} {vs : List V} {ds : List PyData} (h : DpAll K H vs ds) (lo hi : Option Int) : DpAll K H (cutV vs lo hi) (cutP ds lo hi) := by
  unfold cutV cutP
  rw [dpAll_len h]
  exact dpAll_take _ (dpAll_drop _ h)
theorem cut_all (xs : List PyData) (lo hi : Option Int) (h : HT.sIx xs.length 0 lo = 0 ∧ HT.sIx xs.length xs.length hi = xs.length) : cutP xs lo hi = xs := by
  unfold cutP; rw [h.1, h.2]; simp
def gSl (lo hi : Option Int) : PyData → Option PyData
  | .list xs => some (.list (cutP xs lo hi))
  | .tuple xs => some (.tuple (cutP xs lo hi))
  | .str z => if z.length ≤ sizeLine then some (.str (Txt.slice z lo hi)) else none
  | _ => none
abbrev FO := ST → Out (Option Int)
def OutO (K : PySem.W.Frag) (W : WX) (H0 : Hp) (φ0 φ ψ : List Addr) (H : Hp) (σ : L2.St) (Q : Option Int → Hp → Prop) : Out (Option Int) → Prop
  | .ok d s' => ∀ φ' ψ' H', Ext φ ψ H φ' ψ' H' → Sim K H0 φ0 φ' ψ' H' s' σ → Q d H'
  | .exc C fs s' => OutX K W H0 φ0 φ ψ H C fs s'
  | .no => False
  | .pick n k => ∀ i, i < n → OutO K W H0 φ0 φ ψ H σ Q (k i)
theorem OutO.bE {K : PySem.W.Frag} {H0 : Hp} {φ0 φ ψ : List Addr} {H : Hp} {σ : L2.St} {g : D → ST → Out (Option Int)} {Q : Option Int → Hp → Prop} {R : VK}
    (hq : ∀ d s' φ' ψ' H' v, Ext φ ψ H φ' ψ' H' → Sim K H0 φ0 φ' ψ' H' s' σ → RepD K H' φ' ψ' d v → (∀ k, g d s' = k → OutO K W H0 φ0 φ' ψ' H' σ Q k) → R v H') : ∀ {o : Out D}, OutO K W H0 φ0 φ ψ H σ Q (o.bind g) → (∀ k, OutO K W H0 φ0 φ ψ H σ Q k → ∀ φ' ψ' H', Ext φ ψ H φ' ψ' H' → OutO K W H0 φ0 φ' ψ' H' σ Q k) → OutE K W H0 φ0 φ ψ H σ R o
  | .ok d s', h, ex => fun φ' ψ' H' v x S r => hq d s' φ' ψ' H' v x S r fun k e => by subst e; exact ex _ h _ _ _ x
  | .exc _ _ _, h, _ => h
  | .no, h, _ => h
  | .pick n f, h, ex => fun i hi => OutO.bE hq (o := f i) (h i hi) ex
theorem OutO.ext {K : PySem.W.Frag} {H0 : Hp} {φ0 φ ψ φ1 ψ1 : List Addr} {H H1 : Hp} {σ : L2.St} (x : Ext φ ψ H φ1 ψ1 H1) {Q : Option Int → Hp → Prop} : ∀ {o : Out (Option Int)}, OutO K W H0 φ0 φ ψ H σ Q o → OutO K W H0 φ0 φ1 ψ1 H1 σ Q o
  | .ok d s', h => fun φ' ψ' H' e => h φ' ψ' H' (x.trans e)
  | .exc _ _ _, h => OutX.ext x h
  | .no, h => h
  | .pick n k, h => fun i hi => OutO.ext x (h i hi)
def tO (K : PySem.W.Frag) (W : WX) (f : FO) : TO := fun σ H Q => ∃ H0 φ0 φ ψ s, Sim K H0 φ0 φ ψ H s σ ∧ OutO K W H0 φ0 φ ψ H σ Q (f s)
abbrev POD (X : Cx) (W : WX) (e : Option Expr) (f : FO) : Prop := PO X e (tO X.K W f)
theorem PO.imp {X : Cx} {e : Option Expr} {t t' : TO} (h : PO X e t) (k : ∀ σ H Q, t' σ H Q → t σ H Q) : PO X e t' := ⟨fun pins s σ H Q I hw => h.run pins s σ H Q I (k σ H Q hw)⟩
def oNo : FO := fun s => .ok none s
def asI (x : D) (s : ST) : Out (Option Int) := match x with
  | .py (.int i) => .ok (some i) s
  | _ => .no
def oSome (f : FE) : FO := fun s => (f s).bind asI
theorem pod_no : POD X W none oNo := PO.imp po_none fun σ H Q ⟨H0, φ0, φ, ψ, s, S, o⟩ => o φ ψ H (Ext.refl _ _ _) S
theorem pod_some (h : PED X W e fe) : POD X W (some e) (oSome fe) := PO.imp (po_some h) fun σ H Q ⟨H0, φ0, φ, ψ, s, S, o⟩ => ⟨H0, φ0, φ, ψ, s, S, OutO.bE (fun x s1 φ1 ψ1 H1 v e1 S1 r1 o1 => by
  have o2 := o1 _ rfl
  unfold asI at o2
  split at o2
  · rename_i i
    have r' : Dp [] (Fz H1) v (.int i) := r1
    cases r'
    exact ⟨i, rfl, o2 φ1 ψ1 H1 (Ext.refl _ _ _) S1⟩
  · exact o2.elim) o fun k h _ _ _ x => OutO.ext x h⟩
theorem OutE.bO' {K : PySem.W.Frag} {H0 : Hp} {φ0 φ ψ : List Addr} {H : Hp} {σ : L2.St} {g : Option Int → ST → Out D} {Q : VK} {R : Option Int → Hp → Prop}
    (hq : ∀ d s' φ' ψ' H', Ext φ ψ H φ' ψ' H' → Sim K H0 φ0 φ' ψ' H' s' σ → OutE K W H0 φ0 φ' ψ' H' σ Q (g d s') → R d H') : ∀ {o : Out (Option Int)}, OutE K W H0 φ0 φ ψ H σ Q (o.bind g) → OutO K W H0 φ0 φ ψ H σ R o
  | .ok d s', h => fun φ' ψ' H' x S => hq d s' φ' ψ' H' x S (OutE.ext x h)
  | .exc _ _ _, h => h
  | .no, h => h
  | .pick n f, h => fun i hi => OutE.bO' hq (o := f i) (h i hi)
def eSl (f : FE) (l h : FO) : FE := fun s => (f s).bind fun x s1 => (l s1).bind fun lo s2 => (h s2).bind fun hi s3 => opt ((rd s3 x).bind (gSl lo hi)) s3
theorem ped_sl {lo hi : Option Expr} {fl fh : FO} {p2 : Pos} (he : PED X W e fe) (hl : POD X W lo fl) (hh : POD X W hi fh) : PED X W (.Subscript e (.Slice lo hi none p2) pos) (eSl fe fl fh) :=
  PE.imp (pe_frz (pe_slice (sl_tupA.or (sl_list.or C8.sl_txt)) he hl hh)) fun σ H Q ⟨H0, φ0, φ, ψ, s, S, o⟩ => ⟨H0, φ0, φ, ψ, s, S, OutE.bE o fun x s1 φ1 ψ1 H1 v e1 S1 r1 o1 =>
    ⟨H0, φ0, φ1, ψ1, s1, S1, OutE.bO' (fun l s2 φ2 ψ2 H2 e2 S2 o2 => ⟨H0, φ0, φ2, ψ2, s2, S2, OutE.bO' (fun h s3 φ3 ψ3 H3 e3 S3 o3 => by
      obtain ⟨r, e, k⟩ := opt_ok S3 o3
      obtain ⟨p, ep, e⟩ := Option.bind_eq_some_iff.mp e
      have hp := rd_ok S3 (r1.ext (e2.trans e3)) ep
      unfold gSl at e
      split at e
      · cases e
        obtain ⟨aa, vs, rfl, hA, da⟩ := hp
        refine .inr (.inl ⟨aa, vs, rfl, hA, fun p hp => .inr ⟨p, _, rfl, upd_same, fun od => ?_⟩⟩)
        rw [upd_upd]
        have g : Same H3 (upd H3 p (.frz od (.lst (cutV vs l h)))) := grow_new hp
        exact k _ _ g (.lst (.inl (.inr ⟨od, Fz_frz upd_same⟩)) (dpAll_mono (FS.same g) _ _ (cut_dp da l h)))
      · cases e
        obtain ⟨aa, vs, rfl, hA, da⟩ := hp.tup
        refine .inl ⟨aa, vs, rfl, sqT_up hA, fun w => .inl ?_, fun w p hp => .inl ?_⟩
        · rw [dpAll_len da] at w
          exact k _ _ (Same.refl _) (.tup hA (by rw [cut_all _ _ _ w]; exact da))
        · have g : Same H3 (upd H3 p (.tup (cutV vs l h))) := grow_new hp
          exact k _ _ g (.tup (.inl (.inl (Fz_tup upd_same))) (dpAll_mono (FS.same g) _ _ (cut_dp da l h)))
      · split at e
        · rename_i hz
          cases e
          have := hp.str; subst v
          exact .inr (.inr ⟨_, rfl, hz, .inl (k _ _ (Same.refl _) (.str _))⟩)
        · cases e
      · cases e) o2⟩) o1⟩⟩
end
end DL

set_option Elab.async false
set_option linter.all false
set_option maxRecDepth 100000
set_option maxHeartbeats 2000000
namespace DL
open PySem PySem.Spec PyProof.Rows L2
/-! ### targets -/
/-- a name, or a tuple of names -/
inductive Tg where
  | one (i : Nat)
  | tup (is : List Nat)
def Tg.sl : Tg → List Nat
  | .one i => [i]
  | .tup is => is
def putN : List Nat → List PyData → List (Option D) → Option (List (Option D))
  | [], [], S => some S
  | i :: is, p :: ps, S => putN is ps (S.set i (some (.py p)))
  | _, _, _ => none
def Tg.put : Tg → D → ST → Option ST
  | .one i, d, s => some { s with S := s.S.set i (some d) }
  | .tup is, .py (.tuple ps), s => (putN is ps s.S).map fun S => { s with S := S }
  | _, _, _ => none
def gNames : List Nat → TGs
  | [] => gNil
  | i :: is => gCons (gName i) (gNames is)
def Tg.g (K : PySem.W.Frag) : Tg → TG
  | .one i => gName i
  | .tup is => gTup K is.length (gNames is)
abbrev PGD (X : Cx) (e : Expr) (tg : Tg) : Prop := PG X e (tg.g X.K)
def setAll : List Nat → List V → L2.St → L2.St
  | i :: is, v :: vs, σ => setAll is vs (σ.set i (some v))
  | _, _, σ => σ
theorem gNames_of {H : Hp} {Q : L2.St → Hp → Prop} : ∀ (is : List Nat) (vs : List V) (σ : L2.St), is.length = vs.length → Q (setAll is vs σ) H → gNames is vs σ H Q
  | [], [], _, _, q => ⟨rfl, q⟩
  | i :: is, v :: vs, σ, e, q => ⟨v, vs, rfl, gNames_of is vs (σ.set i (some v)) (by simpa using e) q⟩
  | [], _ :: _, _, e, _ => by simp at e
  | _ :: _, [], _, e, _ => by simp at e
theorem wipe_set {vs : List Nat} {i : Nat} {o : Option V} (h : i ∈ vs) : ∀ (σ : L2.St), wipe (σ.set i o) vs = wipe σ vs := by
  induction vs with
  | nil => simp at h
  | cons v vs ih =>
    intro σ
    unfold wipe
    by_cases e : v = i
    · subst e
      by_cases hv : v ∈ vs
      · rw [ih hv]
      · have w : ∀ (us : List Nat), v ∉ us → ∀ σ : L2.St, wipe (σ.set v o) us = (wipe σ us).set v o := by
          intro us
          induction us with
          | nil => intro _ _; rfl
          | cons u us ihu =>
            intro hu σ
            simp only [List.mem_cons, not_or] at hu
            unfold wipe
            rw [ihu hu.2, List.set_comm _ _ hu.1]
        rw [w vs hv, List.set_set]
    · rw [ih (by simpa [Ne.symm e] using h)]
theorem wipe_setAll {vs : List Nat} : ∀ (is : List Nat) (us : List V) (σ : L2.St), (∀ i ∈ is, i ∈ vs) → wipe (setAll is us σ) vs = wipe σ vs
  | i :: is, u :: us, σ, h => by
    show wipe (setAll is us (σ.set i (some u))) vs = _
    rw [wipe_setAll is us _ fun j hj => h j (List.mem_cons_of_mem _ hj), wipe_set (h i (List.mem_cons_self ..))]
  | [], _, _, _ => rfl
  | _ :: _, [], _, _ => rfl
theorem putN_sim {K : PySem.W.Frag} {H0 H : Hp} {φ0 φ ψ : List Addr} : ∀ {is : List Nat} {ps : List PyData} {vs : List V} {s : ST} {σ : L2.St} {S' : List (Option D)}, Sim K H0 φ0 φ ψ H s σ → DpAll [] (Fz H) vs ps → putN is ps s.S = some S' →
    is.length = vs.length ∧ Sim K H0 φ0 φ ψ H { s with S := S' } (setAll is vs σ)
  | [], [], _, s, σ, S', S, da, e => by
    cases da; cases e
    exact ⟨rfl, S⟩
  | i :: is, p :: ps, _, s, σ, S', S, da, e => by
    cases da with
    | cons d1 d2 =>
      obtain ⟨h1, h2⟩ := putN_sim (s := { s with S := s.S.set i (some (.py p)) }) (S.setS (i := i) (d := .py p) d1) d2 e
      exact ⟨by simp [h1], h2⟩
  | [], _ :: _, _, _, _, _, _, _, e => by cases e
  | _ :: _, [], _, _, _, _, _, _, e => by cases e
/-- a value comes to a target -/
theorem Tg.run {K : PySem.W.Frag} {H0 H : Hp} {φ0 φ ψ : List Addr} {s s' : ST} {σ : L2.St} {tg : Tg} {d : D} {v : V} {Q : L2.St → Hp → Prop} (S : Sim K H0 φ0 φ ψ H s σ) (r : RepD K H φ ψ d v) (e : tg.put d s = some s')
    (k : ∀ σ', (∀ vs : List Nat, (∀ i ∈ tg.sl, i ∈ vs) → wipe σ' vs = wipe σ vs) → Sim K H0 φ0 φ ψ H s' σ' → Q σ' H) : tg.g K v σ H Q := by
  cases tg with
  | one i =>
    cases e
    exact k _ (fun vs h => wipe_set (h i (by simp [Tg.sl])) σ) (S.setS r)
  | tup is =>
    cases d with
    | py p =>
      cases p with
      | tuple ps =>
        obtain ⟨S', e1, e2⟩ := Option.map_eq_some_iff.mp e
        subst e2
        obtain ⟨a, vs, rfl, ha, da⟩ := (DpT.of (H := H) (K := K) r).tup
        obtain ⟨hl, S2⟩ := putN_sim S da e1
        refine ⟨a, vs, rfl, sqT_up ha, hl.symm, gNames_of is vs σ hl (k _ (fun us h => wipe_setAll is vs σ h) S2)⟩
      | _ => cases e
    | _ => cases e
theorem pgd_one {X : Cx} {i : Nat} {x : Str} {pos : Pos} (hN : X.N.Nodup) (hi : X.N[i]? = some x) (hx : Loc X.env.scope x) (hf : X.fn x = true ∨ X.env.scope.names.lookup x = some .local := by first | exact .inl rfl | exact .inr rfl | assumption) : PGD X (.Name x pos) (.one i) := pg_name hN hi hx hf
structure PGsD (X : Cx) (es : List Expr) (is : List Nat) : Prop where
  pg : PGs X es (gNames is)
  ln : (assignEach es X.env).length = is.length
  ns : (assignEach es X.env).findIdx? (·.1) = none
theorem pgds_nil {X : Cx} : PGsD X [] [] := ⟨pgs_nil, rfl, rfl⟩
theorem pgds_cons {X : Cx} {i : Nat} {x : Str} {pos : Pos} {es : List Expr} {is : List Nat} (hN : X.N.Nodup) (hi : X.N[i]? = some x) (hx : Loc X.env.scope x) (h : PGsD X es is) (hf : X.fn x = true ∨ X.env.scope.names.lookup x = some .local := by first | exact .inl rfl | exact .inr rfl | assumption)
    (hs : assignEach (.Name x pos :: es) X.env = (false, assign (.Name x pos) X.env) :: assignEach es X.env := by rfl) : PGsD X (.Name x pos :: es) (i :: is) :=
  ⟨pgs_cons (pg_name hN hi hx hf) h.pg (by rw [hs]; rfl), by rw [hs]; simp [h.ln], by rw [hs, List.findIdx?_cons]; simp [h.ns]⟩
theorem pgd_tup {X : Cx} {es : List Expr} {is : List Nat} {k : Nat} {pos : Pos} (hc : X.calm = true) (h : PGsD X es is) : PGD X (.Tuple es k pos) (.tup is) := pg_tup hc h.pg h.ln h.ns

/-! ### what is walked -/
def ItOk (K : PySem.W.Frag) (J : It) (H : Hp) (items : List PyData) : Prop :=
  ∀ H', FS H H' → (∀ i x, items[i]? = some x → J.go i H' ∧ ∀ v H'', J.yld i H' v H'' → Same H' H'' ∧ Dp [] (Fz H'') v x) ∧ J.stop items.length H'
abbrev FI := ST → Out (List PyData)
def OutI (K : PySem.W.Frag) (W : WX) (H0 : Hp) (φ0 φ ψ : List Addr) (H : Hp) (σ : L2.St) (R : It → Hp → Prop) : Out (List PyData) → Prop
  | .ok items s' => ∀ φ' ψ' H' J, Ext φ ψ H φ' ψ' H' → Sim K H0 φ0 φ' ψ' H' s' σ → ItOk K J H' items → R J H'
  | .exc C fs s' => OutX K W H0 φ0 φ ψ H C fs s'
  | .no => False
  | .pick n k => ∀ i, i < n → OutI K W H0 φ0 φ ψ H σ R (k i)
theorem OutI.ext {K : PySem.W.Frag} {W : WX} {H0 : Hp} {φ0 φ ψ φ1 ψ1 : List Addr} {H H1 : Hp} {σ : L2.St} (x : Ext φ ψ H φ1 ψ1 H1) {R : It → Hp → Prop} : ∀ {o : Out (List PyData)}, OutI K W H0 φ0 φ ψ H σ R o → OutI K W H0 φ0 φ1 ψ1 H1 σ R o
  | .ok d s', h => fun φ' ψ' H' J e => h φ' ψ' H' J (x.trans e)
  | .exc _ _ _, h => OutX.ext x h
  | .no, h => h
  | .pick n k, h => fun i hi => OutI.ext x (h i hi)
theorem OutI.bE' {K : PySem.W.Frag} {W : WX} {H0 : Hp} {φ0 φ ψ : List Addr} {H : Hp} {σ : L2.St} {g : D → ST → Out (List PyData)} {Q : It → Hp → Prop} {R : VK}
    (hq : ∀ d s' φ' ψ' H' v, Ext φ ψ H φ' ψ' H' → Sim K H0 φ0 φ' ψ' H' s' σ → RepD K H' φ' ψ' d v → OutI K W H0 φ0 φ' ψ' H' σ Q (g d s') → R v H') : ∀ {o : Out D}, OutI K W H0 φ0 φ ψ H σ Q (o.bind g) → OutE K W H0 φ0 φ ψ H σ R o
  | .ok d s', h => fun φ' ψ' H' v x S r => hq d s' φ' ψ' H' v x S r (OutI.ext x h)
  | .exc _ _ _, h => h
  | .no, h => h
  | .pick n f, h => fun i hi => OutI.bE' hq (o := f i) (h i hi)
theorem OutI.bA' {K : PySem.W.Frag} {W : WX} {H0 : Hp} {φ0 φ ψ : List Addr} {H : Hp} {σ : L2.St} {g : List D → ST → Out (List PyData)} {Q : It → Hp → Prop} {R : List V → Hp → Prop}
    (hq : ∀ d s' φ' ψ' H' v, Ext φ ψ H φ' ψ' H' → Sim K H0 φ0 φ' ψ' H' s' σ → RepA K H' φ' ψ' d v → OutI K W H0 φ0 φ' ψ' H' σ Q (g d s') → R v H') : ∀ {o : Out (List D)}, OutI K W H0 φ0 φ ψ H σ Q (o.bind g) → OutA K W H0 φ0 φ ψ H σ R o
  | .ok d s', h => fun φ' ψ' H' v x S r => hq d s' φ' ψ' H' v x S r (OutI.ext x h)
  | .exc _ _ _, h => h
  | .no, h => h
  | .pick n f, h => fun i hi => OutI.bA' hq (o := f i) (h i hi)
def tI (K : PySem.W.Frag) (W : WX) (f : FI) : TI := fun σ H R => ∃ H0 φ0 φ ψ s, Sim K H0 φ0 φ ψ H s σ ∧ OutI K W H0 φ0 φ ψ H σ R (f s)
abbrev PID (X : Cx) (W : WX) (tg e : Expr) (f : FI) : Prop := PI X tg e (tI X.K W f)
theorem PI.imp {X : Cx} {tg e : Expr} {t t' : TI} (h : PI X tg e t) (k : ∀ σ H R, t' σ H R → t σ H R) : PI X tg e t' := ⟨fun pins s σ H R I hw => h.run pins s σ H R I (k σ H R hw)⟩
section
variable {X : Cx} {W : WX} {tg e e2 : Expr} {fe fe2 : FE} {pos p : Pos} {fs : FA}
def iLT (K : PySem.W.Frag) (tl : TE) : TI := fun σ H R => tl σ H fun x H1 => (∃ a, x = .ref a ∧ (∃ xs, SqL K H1 a xs) ∧ R (Itl K a) H1) ∨ (∃ a, x = .ref a ∧ (∃ xs, SqT K H1 a xs) ∧ R (Itt K a) H1) ∨ ∃ x', x = .str x' ∧ R (Its x') H1
theorem pi_lt {tl : TE} (hl : PE X e tl) : PI X tg e (iLT X.K tl) := by
  refine ⟨fun pins s σ H R I h => ?_⟩
  refine thn (hl.run pins s σ H _ I h) fun v s1 ⟨x, H1, I1, r1, q1⟩ => ?_
  rcases q1 with ⟨a, e, ⟨xs, hq⟩, q⟩ | ⟨a, e, ⟨xs, hq⟩, q⟩ | ⟨x', e, q⟩
  · subst e
    cases r1
    obtain ⟨its, rv, p, hz⟩ := I1.list hq
    refine wpAny_pyIter_list p.isList ?_
    refine ⟨s1.heap.objs.size, [s1.heap.objs.size], _, _, H1, rfl, I1.kept (t' := s1.toks) fun b o e => Heap.get?_push_of_some _ e, turn_list a _, ⟨_, Heap.get?_push_size _ rfl, rfl, rfl⟩, fun b hb => ?_, q⟩
    have e : b = s1.heap.objs.size := by simpa using hb
    subst e
    exact I1.fpOk (Nat.le_refl _) (I1.hok.fresh (Nat.le_refl _))
  · subst e
    cases r1
    obtain ⟨its, rv, p, hz⟩ := I1.tuple hq
    refine wpAny_pyIter_tuple (show s1.heap.IsTuple a its.toArray from p) ?_
    refine ⟨s1.heap.objs.size, [s1.heap.objs.size], _, _, H1, rfl, I1.kept (t' := s1.toks) fun b o e => Heap.get?_push_of_some _ e, turn_tuple a _, ⟨_, Heap.get?_push_size _ rfl, rfl, rfl⟩, fun b hb => ?_, q⟩
    have e : b = s1.heap.objs.size := by simpa using hb
    subst e
    exact I1.fpOk (Nat.le_refl _) (I1.hok.fresh (Nat.le_refl _))
  · subst e
    obtain ⟨t, rfl⟩ := r1
    cases ha : x'.cps.all (· < 128)
    · exact wpAny_pyIter_wide ha (pi_one (tk := s1.toks) I1 _ (turn_str _ x' t "str_iterator" (.inr rfl)) ⟨_, Heap.get?_push_size _ rfl, rfl, rfl⟩ q)
    · exact wpAny_pyIter_ascii ha (pi_one (tk := s1.toks) I1 _ (turn_str _ x' t "str_ascii_iterator" (.inl rfl)) ⟨_, Heap.get?_push_size _ rfl, rfl, rfl⟩ q)
def chars (x : Str) : List PyData := x.cps.toList.map fun c => .str ⟨#[c]⟩
def itemsOf (x : D) (s : ST) : Out (List PyData) := match x with
  | .py (.list xs) => .ok xs s
  | .py (.tuple xs) => .ok xs s
  | .py (.str x) => .ok (chars x) s
  | .scr ns => .ok (ns.map .int) s
  | _ => .no
def iSeq (f : FE) : FI := fun s => (f s).bind itemsOf
theorem itOk_list {K : PySem.W.Frag} {H : Hp} {a : Addr} {vs : List V} {ds : List PyData} (h : SqL [] (Fz H) a vs) (da : DpAll [] (Fz H) vs ds) : ItOk K (Itl K a) H ds := fun H' f => by
  have h' : SqL K H' a vs := sqL_up (sqL_mono f h)
  refine ⟨fun i x e => ?_, ⟨vs, h', by rw [dpAll_len da]; exact Nat.le_refl _⟩⟩
  obtain ⟨v, e1, e2⟩ := dpAll_get da e
  refine ⟨⟨vs, v, h', e1⟩, fun w H'' ⟨z, y⟩ => ?_⟩
  subst z
  have e3 := y vs h'
  rw [e1] at e3; cases e3
  exact ⟨Same.refl _, dp_mono f _ _ e2⟩
theorem itOk_scr {K : PySem.W.Frag} {H : Hp} {a : Addr} {ns : List Int} (h : SqL K (Fz H) a (ns.map V.int)) : ItOk K (Itl K a) H (ns.map .int) := fun H' f => by
  have h' : SqL K H' a (ns.map V.int) := sqL_mono (Fz_same H') (sqL_mono f h)
  refine ⟨fun i x e => ?_, ⟨_, h', by simp⟩⟩
  obtain ⟨v, e1, e2⟩ := dpAll_get (dp_ints (K := []) (H := Fz H) ns) e
  refine ⟨⟨_, v, h', e1⟩, fun w H'' ⟨z, y⟩ => ?_⟩
  subst z
  have e3 := y _ h'
  rw [e1] at e3; cases e3
  exact ⟨Same.refl _, dp_mono f _ _ e2⟩
theorem itOk_tup {K : PySem.W.Frag} {H : Hp} {a : Addr} {vs : List V} {ds : List PyData} (h : SqT [] (Fz H) a vs) (da : DpAll [] (Fz H) vs ds) : ItOk K (Itt K a) H ds := fun H' f => by
  have h' : SqT K H' a vs := sqT_up (sqT_mono f h)
  refine ⟨fun i x e => ?_, ⟨vs, h', by rw [dpAll_len da]; exact Nat.le_refl _⟩⟩
  obtain ⟨v, e1, e2⟩ := dpAll_get da e
  refine ⟨⟨vs, v, h', e1⟩, fun w H'' ⟨z, y⟩ => ?_⟩
  subst z
  have e3 := y vs h'
  rw [e1] at e3; cases e3
  exact ⟨Same.refl _, dp_mono f _ _ e2⟩
theorem itOk_str {K : PySem.W.Frag} {H : Hp} {x : Str} : ItOk K (Its x) H (chars x) := fun H' f => by
  refine ⟨fun i y e => ?_, ?_⟩
  · unfold chars at e
    rw [List.getElem?_map] at e
    obtain ⟨c, e1, e2⟩ := Option.map_eq_some_iff.mp e
    subst e2
    have e3 : x.cps[i]? = some c := by simpa using e1
    refine ⟨(Array.getElem?_eq_some_iff.mp e3).1, fun w H'' ⟨z, c', e4, y⟩ => ?_⟩
    subst z
    rw [e3] at e4; cases e4; subst y
    exact ⟨Same.refl _, .str _⟩
  · show x.cps.size ≤ _
    unfold chars
    simp
theorem pid_seq (he : PED X W e fe) : PID X W tg e (iSeq fe) := PI.imp (pi_lt he) fun σ H R ⟨H0, φ0, φ, ψ, s, S, o⟩ => ⟨H0, φ0, φ, ψ, s, S, OutI.bE' (fun x s1 φ1 ψ1 H1 v e1 S1 r1 o1 => by
  unfold itemsOf at o1
  split at o1
  · rename_i xs
    have r' : Dp [] (Fz H1) v (.list xs) := r1
    cases r' with
    | lst hs ha => exact .inl ⟨_, rfl, ⟨_, sqL_up hs⟩, o1 φ1 ψ1 H1 _ (Ext.refl _ _ _) S1 (itOk_list hs ha)⟩
  · rename_i xs
    have r' : Dp [] (Fz H1) v (.tuple xs) := r1
    cases r' with
    | tup hs ha => exact .inr (.inl ⟨_, rfl, ⟨_, sqT_up hs⟩, o1 φ1 ψ1 H1 _ (Ext.refl _ _ _) S1 (itOk_tup hs ha)⟩)
  · rename_i x'
    have r' : Dp [] (Fz H1) v (.str x') := r1
    cases r'
    exact .inr (.inr ⟨x', rfl, o1 φ1 ψ1 H1 _ (Ext.refl _ _ _) S1 itOk_str⟩)
  · rename_i ns
    obtain ⟨a, rfl, h⟩ := r1
    exact .inl ⟨a, rfl, ⟨_, sqL_mono (Fz_same H1) h⟩, o1 φ1 ψ1 H1 _ (Ext.refl _ _ _) S1 (itOk_scr h)⟩
  · exact o1.elim) o⟩
/-! ranges -/
def rng (lo : Int) (n : Nat) : List PyData := (List.range n).map fun (i : Nat) => .int (lo + (i : Int))
theorem itOk_rng {K : PySem.W.Frag} {H : Hp} {lo : Int} {n : Nat} : ItOk K (Itr lo n) H (rng lo n) := fun H' f => by
  refine ⟨fun i y e => ?_, ?_⟩
  · unfold rng at e
    rw [List.getElem?_map] at e
    obtain ⟨c, e1, e2⟩ := Option.map_eq_some_iff.mp e
    subst e2
    obtain ⟨hl, e3⟩ := List.getElem?_eq_some_iff.mp e1
    rw [List.length_range] at hl
    rw [List.getElem_range] at e3
    subst e3
    exact ⟨hl, fun w H'' ⟨z, y⟩ => by subst z y; exact ⟨Same.refl _, .int _⟩⟩
  · show n ≤ _
    unfold rng
    simp
def inR (i : Int) : Bool := decide (-(2 ^ 62) ≤ i) && decide (i < 2 ^ 62)
theorem inR_ok {i : Int} (h : inR i = true) : -(2 ^ 62) ≤ i ∧ i < 2 ^ 62 := by simpa [inR] using h
def rngOf1 (ds : List D) (s : ST) : Out (List PyData) := match ds with
  | [.py (.int j)] => if inR j = true then .ok (rng 0 j.toNat) s else .no
  | _ => .no
def rngOf2 (ds : List D) (s : ST) : Out (List PyData) := match ds with
  | [.py (.int i), .py (.int j)] => if inR i = true then if inR j = true then .ok (rng i (j - i).toNat) s else .no else .no
  | _ => .no
def iRng1 (f : FA) : FI := fun s => (f s).bind rngOf1
def iRng2 (f : FA) : FI := fun s => (f s).bind rngOf2
theorem pid_rng1 (hg : Gl X "range") (hm : X.mg "range" = none) (ha : PAD X W [e] fs) (hs : starEach [e] X.env = [(false, eval e X.env)] := by rfl) : PID X W tg (.Call (.Name "range" p) [e] [] pos) (iRng1 fs) :=
  PI.imp (pi_range1 hg hm ha hs) fun σ H R ⟨H0, φ0, φ, ψ, s, S, o⟩ => ⟨H0, φ0, φ, ψ, s, S, OutI.bA' (fun ds s1 φ1 ψ1 H1 vs e1 S1 r1 o1 => by
    unfold rngOf1 at o1
    split at o1
    · rename_i j
      split at o1
      · rename_i hj
        obtain ⟨h1, h2⟩ := inR_ok hj
        cases r1 with
        | cons r r' =>
          cases r'
          have r2 : Dp [] (Fz H1) _ (.int j) := r
          cases r2
          exact ⟨j, rfl, h1, h2, o1 φ1 ψ1 H1 _ (Ext.refl _ _ _) S1 itOk_rng⟩
      · exact o1.elim
    · exact o1.elim) o⟩
theorem pid_rng2 (hg : Gl X "range") (hm : X.mg "range" = none) (ha : PAD X W [e, e2] fs) (hs : starEach [e, e2] X.env = [(false, eval e X.env), (false, eval e2 X.env)] := by rfl) (hs2 : starEach [e2] X.env = [(false, eval e2 X.env)] := by rfl) : PID X W tg (.Call (.Name "range" p) [e, e2] [] pos) (iRng2 fs) :=
  PI.imp (pi_range2 hg hm ha hs hs2) fun σ H R ⟨H0, φ0, φ, ψ, s, S, o⟩ => ⟨H0, φ0, φ, ψ, s, S, OutI.bA' (fun ds s1 φ1 ψ1 H1 vs e1 S1 r1 o1 => by
    unfold rngOf2 at o1
    split at o1
    · rename_i i j
      split at o1
      · rename_i hi
        split at o1
        · rename_i hj
          obtain ⟨h1, h2⟩ := inR_ok hi
          obtain ⟨h3, h4⟩ := inR_ok hj
          cases r1 with
          | cons r r' =>
            cases r' with
            | cons r' r'' =>
              cases r''
              have r2 : Dp [] (Fz H1) _ (.int i) := r
              have r3 : Dp [] (Fz H1) _ (.int j) := r'
              cases r2; cases r3
              exact ⟨i, j, rfl, ⟨h1, h2, h3, h4⟩, o1 φ1 ψ1 H1 _ (Ext.refl _ _ _) S1 itOk_rng⟩
        · exact o1.elim
      · exact o1.elim
    · exact o1.elim) o⟩
/-! zip, enumerate -/
def pairs : List PyData → List PyData → List PyData
  | x :: xs, y :: ys => .tuple [x, y] :: pairs xs ys
  | _, _ => []
theorem pairs_get : ∀ {xs ys : List PyData} {i : Nat} {p : PyData}, (pairs xs ys)[i]? = some p → ∃ x y, xs[i]? = some x ∧ ys[i]? = some y ∧ p = .tuple [x, y]
  | x :: xs, y :: ys, 0, p, e => by
    have e' : PyData.tuple [x, y] = p := by simpa [pairs] using e
    exact ⟨x, y, rfl, rfl, e'.symm⟩
  | x :: xs, y :: ys, i + 1, p, e => by
    obtain ⟨a, b, h1, h2, h3⟩ := pairs_get (xs := xs) (ys := ys) (i := i) (p := p) (by simpa [pairs] using e)
    exact ⟨a, b, by simpa using h1, by simpa using h2, h3⟩
  | [], _, _, _, e => by simp [pairs] at e
  | _ :: _, [], _, _, e => by simp [pairs] at e
theorem pairs_len : ∀ {xs ys : List PyData}, xs.length ≤ (pairs xs ys).length ∨ ys.length ≤ (pairs xs ys).length
  | x :: xs, y :: ys => by
    rcases pairs_len (xs := xs) (ys := ys) with h | h
    · left; simp only [pairs, List.length_cons]; omega
    · right; simp only [pairs, List.length_cons]; omega
  | [], _ => .inl (by simp)
  | _ :: _, [] => .inr (by simp)
def zipOf (ds : List D) (s : ST) : Out (List PyData) := match ds with
  | [.py (.list xs), .py (.list ys)] => .ok (pairs xs ys) s
  | [.py (.tuple xs), .py (.tuple ys)] => .ok (pairs xs ys) s
  | _ => .no
def iZip (f : FA) : FI := fun s => (f s).bind zipOf
theorem dp_pair {H : Hp} {T : Addr} {v u : V} {x y : PyData} (hT : H T = none) (d1 : Dp [] (Fz H) v x) (d2 : Dp [] (Fz H) u y) : Dp [] (Fz (upd H T (.tup [v, u]))) (.ref T) (.tuple [x, y]) := by
  have g : Same H (upd H T (.tup [v, u])) := grow_new hT
  exact .tup (.inl (.inl (Fz_tup upd_same))) (.cons (dp_mono (FS.same g) _ _ d1) (.cons (dp_mono (FS.same g) _ _ d2) .nil))
theorem itOk_zipL {K : PySem.W.Frag} {H : Hp} {a b : Addr} {vs us : List V} {ds es : List PyData} (h : SqL [] (Fz H) a vs) (da : DpAll [] (Fz H) vs ds) (h2 : SqL [] (Fz H) b us) (db : DpAll [] (Fz H) us es) : ItOk K (Itz K a b) H (pairs ds es) := fun H' f => by
  have h' : SqL K H' a vs := sqL_up (sqL_mono f h)
  have h2' : SqL K H' b us := sqL_up (sqL_mono f h2)
  refine ⟨fun i p e => ?_, ⟨vs, us, h', h2', by rw [dpAll_len da, dpAll_len db]; exact pairs_len⟩⟩
  obtain ⟨x, y, e1, e2, rfl⟩ := pairs_get e
  obtain ⟨v, w1, w2⟩ := dpAll_get da e1
  obtain ⟨u, w3, w4⟩ := dpAll_get db e2
  refine ⟨⟨vs, us, v, u, h', h2', w1, w3⟩, fun w H'' ⟨T, x', y', z1, z2, z3, z4, z5⟩ => ?_⟩
  have q1 := z4 vs h'; have q2 := z5 us h2'
  rw [w1] at q1; rw [w3] at q2; cases q1; cases q2
  subst z1 z3
  exact ⟨grow_new z2, dp_pair z2 (dp_mono f _ _ w2) (dp_mono f _ _ w4)⟩
theorem itOk_zipT {K : PySem.W.Frag} {H : Hp} {a b : Addr} {vs us : List V} {ds es : List PyData} (h : SqT [] (Fz H) a vs) (da : DpAll [] (Fz H) vs ds) (h2 : SqT [] (Fz H) b us) (db : DpAll [] (Fz H) us es) : ItOk K (RZ.ItzT K a b) H (pairs ds es) := fun H' f => by
  have h' : SqT K H' a vs := sqT_up (sqT_mono f h)
  have h2' : SqT K H' b us := sqT_up (sqT_mono f h2)
  refine ⟨fun i p e => ?_, ⟨vs, us, h', h2', by rw [dpAll_len da, dpAll_len db]; exact pairs_len⟩⟩
  obtain ⟨x, y, e1, e2, rfl⟩ := pairs_get e
  obtain ⟨v, w1, w2⟩ := dpAll_get da e1
  obtain ⟨u, w3, w4⟩ := dpAll_get db e2
  refine ⟨⟨vs, us, v, u, h', h2', w1, w3⟩, fun w H'' ⟨T, x', y', z1, z2, z3, z4, z5⟩ => ?_⟩
  have q1 := z4 vs h'; have q2 := z5 us h2'
  rw [w1] at q1; rw [w3] at q2; cases q1; cases q2
  subst z1 z3
  exact ⟨grow_new z2, dp_pair z2 (dp_mono f _ _ w2) (dp_mono f _ _ w4)⟩
theorem pid_zip {elts : List Expr} {kk : Nat} {tpos : Pos} (hg : Gl X "zip") (hm : X.mg "zip" = none) (ha : PAD X W [e, e2] fs)
    (hs : starEach [e, e2] X.env = (false, eval e X.env) :: starEach [e2] X.env := by rfl) (hpl : (backTo pos (starEach [e2] X.env)).any (·.1) = false := by rfl) : PID X W (.Tuple elts kk tpos) (.Call (.Name "zip" p) [e, e2] [] pos) (iZip fs) :=
  PI.imp (RZ.pi_zipA hg hm ha hs hpl) fun σ H R ⟨H0, φ0, φ, ψ, s, S, o⟩ => ⟨H0, φ0, φ, ψ, s, S, OutI.bA' (fun ds s1 φ1 ψ1 H1 vs e1 S1 r1 o1 => by
    unfold zipOf at o1
    split at o1
    · rename_i xs ys
      cases r1 with
      | cons r r' =>
        cases r' with
        | cons r' r'' =>
          cases r''
          have r2 : Dp [] (Fz H1) _ (.list xs) := r
          have r3 : Dp [] (Fz H1) _ (.list ys) := r'
          cases r2 with
          | lst hs ha =>
            cases r3 with
            | lst hs' ha' => exact ⟨_, _, _, _, rfl, .inl ⟨sqL_up hs, sqL_up hs', o1 φ1 ψ1 H1 _ (Ext.refl _ _ _) S1 (itOk_zipL hs ha hs' ha')⟩⟩
    · rename_i xs ys
      cases r1 with
      | cons r r' =>
        cases r' with
        | cons r' r'' =>
          cases r''
          have r2 : Dp [] (Fz H1) _ (.tuple xs) := r
          have r3 : Dp [] (Fz H1) _ (.tuple ys) := r'
          cases r2 with
          | tup hs ha =>
            cases r3 with
            | tup hs' ha' => exact ⟨_, _, _, _, rfl, .inr ⟨sqT_up hs, sqT_up hs', o1 φ1 ψ1 H1 _ (Ext.refl _ _ _) S1 (itOk_zipT hs ha hs' ha')⟩⟩
    · exact o1.elim) o⟩
def numb : Nat → List PyData → List PyData
  | _, [] => []
  | n, x :: xs => .tuple [.int (n : Nat), x] :: numb (n + 1) xs
theorem numb_get : ∀ {xs : List PyData} {n i : Nat} {p : PyData}, (numb n xs)[i]? = some p → ∃ x, xs[i]? = some x ∧ p = .tuple [.int ((n + i : Nat) : Int), x]
  | x :: xs, n, 0, p, e => by
    have e' : PyData.tuple [.int (n : Nat), x] = p := by simpa [numb] using e
    exact ⟨x, rfl, e'.symm⟩
  | x :: xs, n, i + 1, p, e => by
    obtain ⟨a, h1, h2⟩ := numb_get (xs := xs) (n := n + 1) (i := i) (p := p) (by simpa [numb] using e)
    have e3 : n + 1 + i = n + (i + 1) := by omega
    exact ⟨a, by simpa using h1, by rw [h2, e3]⟩
  | [], _, _, _, e => by simp [numb] at e
theorem numb_len : ∀ {xs : List PyData} {n : Nat}, (numb n xs).length = xs.length
  | [], _ => rfl
  | x :: xs, n => by simp [numb, numb_len]
def enumOf (ds : List D) (s : ST) : Out (List PyData) := match ds with
  | [.py (.list xs)] => .ok (numb 0 xs) s
  | _ => .no
def iEnum (f : FA) : FI := fun s => (f s).bind enumOf
theorem itOk_enum {K : PySem.W.Frag} {H : Hp} {a : Addr} {vs : List V} {ds : List PyData} (h : SqL [] (Fz H) a vs) (da : DpAll [] (Fz H) vs ds) : ItOk K (Ite K a) H (numb 0 ds) := fun H' f => by
  have h' : SqL K H' a vs := sqL_up (sqL_mono f h)
  refine ⟨fun i p e => ?_, ⟨vs, h', by rw [dpAll_len da, numb_len]; exact Nat.le_refl _⟩⟩
  obtain ⟨x, e1, rfl⟩ := numb_get e
  obtain ⟨v, w1, w2⟩ := dpAll_get da e1
  refine ⟨⟨vs, v, h', w1⟩, fun w H'' ⟨T, x', z1, z2, z3, z4⟩ => ?_⟩
  have q1 := z4 vs h'
  rw [w1] at q1; cases q1
  subst z1 z3
  rw [Nat.zero_add]
  exact ⟨grow_new z2, dp_pair z2 (.int _) (dp_mono f _ _ w2)⟩
theorem pid_enum {elts : List Expr} {kk : Nat} {tpos : Pos} (hg : Gl X "enumerate") (hm : X.mg "enumerate" = none) (ha : PAD X W [e] fs) (hs : starEach [e] X.env = [(false, eval e X.env)] := by rfl) :
    PID X W (.Tuple elts kk tpos) (.Call (.Name "enumerate" p) [e] [] pos) (iEnum fs) :=
  PI.imp (pi_enum hg hm ha hs) fun σ H R ⟨H0, φ0, φ, ψ, s, S, o⟩ => ⟨H0, φ0, φ, ψ, s, S, OutI.bA' (fun ds s1 φ1 ψ1 H1 vs e1 S1 r1 o1 => by
    unfold enumOf at o1
    split at o1
    · rename_i xs
      cases r1 with
      | cons r r' =>
        cases r'
        have r2 : Dp [] (Fz H1) _ (.list xs) := r
        cases r2 with
        | lst hs ha => exact ⟨_, _, rfl, sqL_up hs, o1 φ1 ψ1 H1 _ (Ext.refl _ _ _) S1 (itOk_enum hs ha)⟩
    · exact o1.elim) o⟩
end
end DL

set_option Elab.async false
set_option linter.all false
set_option maxRecDepth 100000
set_option maxHeartbeats 2000000
namespace DL
open PySem PySem.Spec PyProof.Rows L2
/-! ### blocks: nothing raises in them -/
def noX {α : Type} : Out α → Out α
  | .ok a s => .ok a s
  | .exc _ _ _ => .no
  | .no => .no
  | .pick n k => .pick n fun i => noX (k i)
def WF : WX := fun _ _ _ _ => False
section
variable {K : PySem.W.Frag} {W : WX} {H0 : Hp} {φ0 φ ψ φ2 ψ2 : List Addr} {H H2 : Hp} {σ σ2 : L2.St} {Q : VK}
theorem OutE.bEX {R : VK} {g : D → ST → Out D} (hq : ∀ d s' φ' ψ' H' v, Ext φ2 ψ2 H2 φ' ψ' H' → Sim K H0 φ0 φ' ψ' H' s' σ2 → RepD K H' φ' ψ' d v → OutE K W H0 φ0 φ ψ H σ Q (g d s') → R v H') : ∀ {o : Out D}, OutE K W H0 φ0 φ ψ H σ Q ((noX o).bind g) → OutE K WF H0 φ0 φ2 ψ2 H2 σ2 R o
  | .ok d s', h => fun φ' ψ' H' v x S r => hq d s' φ' ψ' H' v x S r h
  | .exc _ _ _, h => h.elim
  | .no, h => h
  | .pick n f, h => fun i hi => OutE.bEX hq (o := f i) (h i hi)
theorem OutE.bTX {R : Bool → Hp → Prop} {g : Bool → ST → Out D} (hq : ∀ d s' φ' ψ' H', Ext φ2 ψ2 H2 φ' ψ' H' → Sim K H0 φ0 φ' ψ' H' s' σ2 → OutE K W H0 φ0 φ ψ H σ Q (g d s') → R d H') : ∀ {o : Out Bool}, OutE K W H0 φ0 φ ψ H σ Q ((noX o).bind g) → OutT K WF H0 φ0 φ2 ψ2 H2 σ2 R o
  | .ok d s', h => fun φ' ψ' H' x S => hq d s' φ' ψ' H' x S h
  | .exc _ _ _, h => h.elim
  | .no, h => h
  | .pick n f, h => fun i hi => OutE.bTX hq (o := f i) (h i hi)
theorem OutE.bIX {R : It → Hp → Prop} {g : List PyData → ST → Out D} (hq : ∀ d s' φ' ψ' H' J, Ext φ2 ψ2 H2 φ' ψ' H' → Sim K H0 φ0 φ' ψ' H' s' σ2 → ItOk K J H' d → OutE K W H0 φ0 φ ψ H σ Q (g d s') → R J H') : ∀ {o : Out (List PyData)}, OutE K W H0 φ0 φ ψ H σ Q ((noX o).bind g) → OutI K WF H0 φ0 φ2 ψ2 H2 σ2 R o
  | .ok d s', h => fun φ' ψ' H' J x S k => hq d s' φ' ψ' H' J x S k h
  | .exc _ _ _, h => h.elim
  | .no, h => h
  | .pick n f, h => fun i hi => OutE.bIX hq (o := f i) (h i hi)
theorem OutE.bI' {R : It → Hp → Prop} {g : List PyData → ST → Out D} (hq : ∀ d s' φ' ψ' H' J, Ext φ ψ H φ' ψ' H' → Sim K H0 φ0 φ' ψ' H' s' σ → ItOk K J H' d → OutE K W H0 φ0 φ' ψ' H' σ Q (g d s') → R J H') : ∀ {o : Out (List PyData)}, OutE K W H0 φ0 φ ψ H σ Q (o.bind g) → OutI K W H0 φ0 φ ψ H σ R o
  | .ok d s', h => fun φ' ψ' H' J x S k => hq d s' φ' ψ' H' J x S k (OutE.ext x h)
  | .exc _ _ _, h => h
  | .no, h => h
  | .pick n f, h => fun i hi => OutE.bI' hq (o := f i) (h i hi)
theorem OutS.bI' {R : It → Hp → Prop} {D' : Ends} {g : List PyData → ST → Out Fl} (hq : ∀ d s' φ' ψ' H' J, Ext φ ψ H φ' ψ' H' → Sim K H0 φ0 φ' ψ' H' s' σ → ItOk K J H' d → OutS K W H0 φ0 φ' ψ' H' D' (g d s') → R J H') : ∀ {o : Out (List PyData)}, OutS K W H0 φ0 φ ψ H D' (o.bind g) → OutI K W H0 φ0 φ ψ H σ R o
  | .ok d s', h => fun φ' ψ' H' J x S k => hq d s' φ' ψ' H' J x S k (OutS.ext x h)
  | .exc _ _ _, h => h
  | .no, h => h
  | .pick n f, h => fun i hi => OutS.bI' hq (o := f i) (h i hi)
end

/-! ### a walk over items -/
theorem walkLc {K : PySem.W.Frag} {J : It} {Hb H2 : Hp} {items : List PyData} {B : V → Hp → (Hp → Prop) → Prop} {Z : Hp → Prop} (it : ItOk K J Hb items) (P : Nat → Hp → Prop) (fs : ∀ i H, P i H → FS Hb H) (h0 : P 0 H2)
    (step : ∀ i x H v H', items[i]? = some x → P i H → Same H H' → Dp [] (Fz H') v x → B v H' (P (i + 1))) (done : ∀ H, P items.length H → Z H) :
    ∃ Wm : Nat → Nat → Hp → Prop, (∃ m, Wm 0 m H2) ∧ ∀ i m H, Wm i m H → (J.stop i H ∧ Z H) ∨ (J.go i H ∧ ∃ Nx : Hp → Prop, (∀ H', Nx H' → ∃ m', m' < m ∧ Wm (i + 1) m' H') ∧ ∀ x H', J.yld i H x H' → B x H' Nx) := by
  refine ⟨fun i m H => m = items.length - i ∧ i ≤ items.length ∧ P i H, ⟨items.length, by simp, Nat.zero_le _, h0⟩, ?_⟩
  rintro i m H ⟨rfl, hi, p⟩
  obtain ⟨g, st⟩ := it H (fs i H p)
  by_cases hlt : i < items.length
  · obtain ⟨go, y⟩ := g i items[i] (List.getElem?_eq_getElem hlt)
    refine .inr ⟨go, P (i + 1), fun H' p' => ⟨items.length - (i + 1), by omega, rfl, hlt, p'⟩, fun x H' yy => ?_⟩
    obtain ⟨e1, e2⟩ := y x H' yy
    exact step i _ H x H' (List.getElem?_eq_getElem hlt) p e1 e2
  · have e : i = items.length := by omega
    subst e
    exact .inl ⟨st, done H p⟩
theorem drop_at {α : Type} {l : List α} {i : Nat} {x : α} (h : l[i]? = some x) : l.drop i = x :: l.drop (i + 1) := by
  obtain ⟨hl, e⟩ := List.getElem?_eq_some_iff.mp h
  rw [List.drop_eq_getElem_cons hl, e]

/-! ### slots forgotten and restored -/
def wipeD (S : List (Option D)) : List Nat → List (Option D)
  | [] => S
  | v :: vs => (wipeD S vs).set v none
section
variable {K : PySem.W.Frag} {H0 H H' : Hp} {φ0 φ ψ φ' ψ' : List Addr} {s s' : ST} {σ σ' : L2.St}
theorem Sim.wipe (S : Sim K H0 φ0 φ ψ H s σ) : ∀ vs : List Nat, Sim K H0 φ0 φ ψ H { s with S := wipeD s.S vs } (L2.wipe σ vs)
  | [] => S
  | v :: vs => (S.wipe vs).clrS v
theorem Sim.reslot (S : Sim K H0 φ0 φ ψ H s σ) {S1 : List (Option D)} (hl : S1.length = σ'.length) (hr : ∀ (i : Nat) d, S1[i]? = some (some d) → ∃ v, σ'[i]? = some (some v) ∧ RepD K H φ ψ d v) : Sim K H0 φ0 φ ψ H { s with S := S1 } σ' :=
  { S with sl := hl, s := hr }
/-- the slots of an earlier state -/
theorem Sim.back (S : Sim K H0 φ0 φ' ψ' H' s' σ') (S1 : Sim K H0 φ0 φ ψ H s σ) (x : Ext φ ψ H φ' ψ' H') : Sim K H0 φ0 φ' ψ' H' { s' with S := s.S } σ :=
  S.reslot S1.sl fun i d h => let ⟨v, h1, h2⟩ := S1.s i d h; ⟨v, h1, h2.ext x⟩
theorem take_get {α : Type} {l : List α} {n i : Nat} {a : α} (h : (l.take n)[i]? = some a) : l[i]? = some a := by
  by_cases hi : i < n
  · rw [List.getElem?_take_of_lt hi] at h; exact h
  · rw [List.getElem?_eq_none (by simp; omega)] at h; cases h
/-- the locals' end forgotten -/
theorem Sim.trunc (S : Sim K H0 φ0 φ ψ H s σ) (n : Nat) {S1 : List (Option D)} (hl : S1.length = σ'.length) (hr : ∀ (i : Nat) d, S1[i]? = some (some d) → ∃ v, σ'[i]? = some (some v) ∧ RepD K H φ (ψ.take n) d v) : Sim K H0 φ0 φ (ψ.take n) H { s with S := S1, L := s.L.take n } σ' where
  g := S.g
  ll := by simp [S.ll]
  nl := S.nl.sublist (List.take_sublist _ _)
  gl := fun a h z => S.gl a h (List.mem_of_mem_take z)
  l := fun m a o h1 h2 => S.l m a o (take_get h1) (take_get (show (s.L.take n)[m]? = some o from h2))
  sl := hl
  s := hr
  pre := S.pre
  fr := fun a h => S.fr a (List.mem_of_mem_take h)
  new := S.new
  kp := S.kp
  old := S.old
theorem pre_take {n : Nat} {p : Addr} (h : Pre (ψ ++ [p]) ψ') (hn : n = ψ.length) : Pre ψ (ψ'.take n) := fun m a e => by
  have hl : m < ψ.length := (List.getElem?_eq_some_iff.mp e).1
  rw [List.getElem?_take_of_lt (by omega)]
  exact h m a (Pre.app ψ [p] m a e)
end

/-! ### list comprehensions -/
def addAcc (n : Nat) (y : D) (s : ST) (k : ST → Out D) : Out D := match y, s.L[n]? with
  | .py p, some (.lst acc) => if acc.length < sizeLine then k { s with L := s.L.set n (.lst (acc ++ [p])) } else .no
  | _, _ => .no
def lcL (n : Nat) (S0 : List (Option D)) (tg : Tg) (ft : FT) (fe : FE) (fin : ST → Out D) : List PyData → ST → Out D
  | [], s => fin { s with S := S0 }
  | x :: xs, s => match tg.put (.py x) { s with S := S0 } with
    | none => .no
    | some s1 => (noX (ft s1)).bind fun b s2 => match b with
      | true => (noX (fe s2)).bind fun y s3 => addAcc n y s3 fun s4 => lcL n S0 tg ft fe fin xs s4
      | false => lcL n S0 tg ft fe fin xs s2
def lcEnd (n : Nat) (S1 : List (Option D)) (s : ST) : Out D := match s.L[n]? with
  | some (.lst acc) => .ok (.py (.list acc)) { s with S := S1, L := s.L.take n }
  | _ => .no
def lcEndL (n : Nat) (S1 : List (Option D)) (s : ST) : Out D := .ok (.loc n) { s with S := S1, L := s.L.take (n + 1) }
def eLcG (en : Nat → List (Option D) → ST → Out D) (fi : FI) (tg : Tg) (vs : List Nat) (ft : FT) (fe : FE) : FE := fun s => (fi s).bind fun items s1 =>
  lcL s1.L.length (wipeD s1.S vs) tg ft fe (en s1.L.length s1.S) items { s1 with L := s1.L ++ [.lst []] }
def eLc := eLcG lcEnd
def eLcL := eLcG lcEndL
def fYes : FT := fun s => .ok true s
section
variable {K : PySem.W.Frag} {W : WX} {H0 : Hp} {φ0 φb ψb φ2 ψ2 : List Addr} {Hb H1 H2 : Hp} {σ σw : L2.St} {Q : VK} {tg : Tg} {ft : FT} {fe : FE} {fin : ST → Out D} {S0 : List (Option D)} {vs : List Nat} {J : It} {D0 : Addr} {n : Nat}
/-- the loop of a comprehension; σw: the block's slots -/
theorem lc_walk {items : List PyData} {s : ST} {Z : Hp → Prop} (it : ItOk K J H1 items) (fs1 : FS H1 H2) (hn : ψ2[n]? = some D0) (hw : ∀ i ∈ tg.sl, i ∈ vs) (hwp : wipe σw vs = σw) (S2 : Sim K H0 φ0 φ2 ψ2 H2 { s with S := S0 } σw)
    (o : OutE K W H0 φ0 φb ψb Hb σ Q (lcL n S0 tg ft fe fin items s))
    (done : ∀ φ' ψ' H' (s' : ST), Ext φ2 ψ2 H2 φ' ψ' H' → Sim K H0 φ0 φ' ψ' H' { s' with S := S0 } σw → OutE K W H0 φ0 φb ψb Hb σ Q (fin { s' with S := S0 }) → Z H') :
    ∃ Wm : Nat → Nat → Hp → Prop, (∃ m, Wm 0 m H2) ∧ ∀ i m H, Wm i m H → (J.stop i H ∧ Z H) ∨ (J.go i H ∧ ∃ Nx : Hp → Prop, (∀ H', Nx H' → ∃ m', m' < m ∧ Wm (i + 1) m' H') ∧ ∀ x H', J.yld i H x H' →
      tg.g K x σw H' fun σ2 H2 => wipe σ2 vs = σw ∧ tT K WF ft σ2 H2 fun b H3 =>
        if b = true then tE K WF fe σ2 H3 fun y H4 => ∃ acc, H4 D0 = some (.lst acc) ∧ acc.length < sizeLine ∧ Nx (upd H4 D0 (.lst (acc ++ [y]))) else Nx H3) := by
  refine walkLc it (fun i H => ∃ φ' ψ', ∃ s' : ST, Ext φ2 ψ2 H2 φ' ψ' H ∧ Sim K H0 φ0 φ' ψ' H { s' with S := S0 } σw ∧ OutE K W H0 φ0 φb ψb Hb σ Q (lcL n S0 tg ft fe fin (items.drop i) s')) (fun i H ⟨φ', ψ', s', x, _⟩ => fs1.trans x.f) ⟨φ2, ψ2, s, Ext.refl _ _ _, S2, o⟩ ?_ ?_
  · rintro i x H v H' ei ⟨φ', ψ', s', x2, S', o'⟩ sm dp
    rw [drop_at ei] at o'
    unfold lcL at o'
    cases ep : tg.put (.py x) { s' with S := S0 } with
    | none => rw [ep] at o'; exact o'.elim
    | some s1 =>
      rw [ep] at o'
      have S3 := S'.grow sm
      have x3 : Ext φ2 ψ2 H2 φ' ψ' H' := x2.trans (Ext.grow sm)
      refine Tg.run S3 (d := .py x) dp ep fun σ' wp S4 => ⟨by rw [wp vs hw, hwp], ⟨H0, φ0, φ', ψ', s1, S4, OutE.bTX (fun b s5 φ5 ψ5 H5 x5 S5 o5 => ?_) o'⟩⟩
      cases b with
      | true =>
        rw [if_pos rfl]
        refine ⟨H0, φ0, φ5, ψ5, s5, S5, OutE.bEX (fun y s6 φ6 ψ6 H6 w x6 S6 r6 o6 => ?_) o5⟩
        unfold addAcc at o6
        split at o6
        · rename_i p acc el
          split at o6
          · rename_i hz
            have x26 : Ext φ2 ψ2 H2 φ6 ψ6 H6 := x3.trans (x5.trans x6)
            have hD : ψ6[n]? = some D0 := x26.q n D0 hn
            obtain ⟨us, h1, h2⟩ := S6.l n D0 _ hD el
            have hf : Fz H6 D0 = none := Fz_lst h1
            have f : FS H6 (upd H6 D0 (.lst (us ++ [w]))) := FS.upd hf
            have r6' : Dp [] (Fz H6) w p := r6
            refine ⟨us, h1, by rw [dpAll_len h2]; exact hz, φ6, ψ6, _, x26.trans (Ext.setL S6 hf), ?_, o6⟩
            have S7 := S6.setL hD hf (u := .lst (us ++ [w])) (o := .lst (acc ++ [p])) fun H'' e => by subst e; exact ⟨_, upd_same, dpAll_append (dpAll_mono f _ _ h2) (.cons (dp_mono f _ _ r6') .nil)⟩
            exact S7.back S2 (x26.trans (Ext.setL S6 hf))
          · exact o6.elim
        · exact o6.elim
      | false =>
        rw [if_neg Bool.false_ne_true]
        have x25 : Ext φ2 ψ2 H2 φ5 ψ5 H5 := x3.trans x5
        exact ⟨φ5, ψ5, s5, x25, S5.back S2 x25, o5⟩
  · rintro H ⟨φ', ψ', s', x2, S', o'⟩
    rw [List.drop_length] at o'
    exact done φ' ψ' H s' x2 S' o'
end
theorem wipe_wipe (σ : L2.St) (vs : List Nat) : wipe (wipe σ vs) vs = wipe σ vs := by
  have h : ∀ us : List Nat, (∀ u ∈ us, u ∈ vs) → ∀ σ : L2.St, wipe (wipe σ us) vs = wipe σ vs := by
    intro us
    induction us with
    | nil => intro _ σ; rfl
    | cons u us ih =>
      intro h σ
      show wipe ((wipe σ us).set u none) vs = _
      rw [wipe_set (h u (List.mem_cons_self ..)), ih (fun w hw => h w (List.mem_cons_of_mem _ hw))]
  exact h vs (fun _ h => h) σ
section
variable {X : Cx} {W : WX} {elt tgx iter : Expr} {ifs : List Expr} {scope : Scope} {own : List (Str × Nat)} {pos : Pos} {fi : FI} {tg : Tg} {ft : FT} {fe : FE}
theorem PTs.imp {X : Cx} {ifs : List Expr} {t t' : TT} (h : PTs X ifs t) (k : ∀ σ H Q, t' σ H Q → t σ H Q) : PTs X ifs t' := ⟨fun pins s σ H Q I hw => h.run pins s σ H Q I (k σ H Q hw)⟩
abbrev PTsD (X : Cx) (W : WX) (ifs : List Expr) (f : FT) : Prop := PTs X ifs (tT X.K W f)
theorem ptsd_nil : PTsD X W [] fYes := PTs.imp pts_nil fun σ H Q ⟨H0, φ0, φ, ψ, s, S, o⟩ => o φ ψ H (Ext.refl _ _ _) S
theorem ptsd_one {c : Expr} (h : PTD X W c ft) : PTsD X W [c] ft := pts_one h
theorem ped_lc (hc : X.calm = true) (hN : X.N.Nodup) (hi : PID X W tgx iter fi) (ok : BlkOk X.N X.env.scope scope own)
    (hg : ∀ (s : Shared) (H : Hp) (C : Addr) (cl : List (Str × Addr)) (fp : List Addr), PGD (X.blk s H scope (compEnvC scope cl C X.env) fp) tgx tg) (ht : ∀ (s : Shared) (H : Hp) (C : Addr) (cl : List (Str × Addr)) (fp : List Addr), PTsD (X.blk s H scope (compEnvC scope cl C X.env) fp) WF ifs ft)
    (he : ∀ (s : Shared) (H : Hp) (C : Addr) (cl : List (Str × Addr)) (fp : List Addr), PED (X.blk s H scope (compEnvC scope cl C X.env) fp) WF elt fe) (hw : ∀ i ∈ tg.sl, i ∈ own.map (·.2)) (hs : ∀ x, foldedSetIterable iter X.env x = pure x := by intro _; rfl) :
    PED X W (.ListComp elt [⟨tgx, iter, ifs, 0⟩] scope pos) (eLc fi tg (own.map (·.2)) ft fe) :=
  PE.imp (pe_frz (pe_lc hc hN hi ok hg ht he hs)) fun σ H Q ⟨H0, φ0, φ, ψ, s, S, o⟩ => ⟨H0, φ0, φ, ψ, s, S, OutE.bI' (fun items s1 φ1 ψ1 H1 J x1 S1 it o1 => fun D0 hD => by
    have hn : (ψ1 ++ [D0])[s1.L.length]? = some D0 := newL_val S1
    have g1 : Same H1 (upd H1 D0 (.lst [])) := grow_new hD
    have S2 := S1.newL (u := .lst []) (o := .lst []) hD fun H' e => by subst e; exact ⟨[], upd_same, .nil⟩
    refine lc_walk (Z := fun H => _ ∨ _) it (FS.same g1) hn hw (wipe_wipe _ _) (S2.wipe (own.map (·.2))) o1 fun φ' ψ' H' s' x' S' o' => .inr ?_
    unfold lcEnd at o'
    split at o'
    · rename_i acc el
      have hD' : ψ'[s1.L.length]? = some D0 := x'.q _ _ hn
      obtain ⟨us, h1, h2⟩ := S'.l _ D0 _ hD' el
      refine ⟨D0, us, rfl, h1, fun od => ?_⟩
      have hf : Fz H' D0 = none := Fz_lst h1
      have f : FS H' (upd H' D0 (.frz od (.lst us))) := FS.upd hf
      have S7 := S'.setL hD' hf (u := .frz od (.lst us)) (o := .flst acc) fun H'' e => by subst e; exact ⟨od, us, upd_same, dpAll_mono f _ _ h2⟩
      have p1 : Pre ψ1 (ψ'.take s1.L.length) := pre_take x'.q S1.ll.symm
      have f1 : FS H1 (upd H' D0 (.frz od (.lst us))) := (FS.same g1).trans (x'.f.trans f)
      have S8 := S7.trunc s1.L.length (S1 := s1.S) (σ' := σ) S1.sl fun i d h => let ⟨v, w1, w2⟩ := S1.s i d h; ⟨v, w1, w2.mono f1 x'.p p1⟩
      have e9 : (s'.L.set s1.L.length (.flst acc)).take s1.L.length = s'.L.take s1.L.length := by rw [List.take_set_of_le (Nat.le_refl _)]
      simp only [e9] at S8
      exact o' φ' (ψ'.take s1.L.length) _ _ ⟨f1, x'.p, p1⟩ S8 (.lst (.inl (.inr ⟨od, Fz_frz upd_same⟩)) (dpAll_mono f _ _ h2))
    · exact o'.elim) o⟩
end
end DL

set_option Elab.async false
set_option linter.all false
set_option maxRecDepth 100000
set_option maxHeartbeats 2000000
namespace DL
open PySem PySem.Spec PyProof.Rows L2
/-- two for's -/
def lcL2 (n : Nat) (S0 : List (Option D)) (tg : Tg) (ft : FT) (fi1 : FI) (tg1 : Tg) (vs1 : List Nat) (ft1 : FT) (fe : FE) (fin : ST → Out D) : List PyData → ST → Out D
  | [], s => fin { s with S := S0 }
  | x :: xs, s => match tg.put (.py x) { s with S := S0 } with
    | none => .no
    | some s1 => (noX (ft s1)).bind fun b s2 => match b with
      | true => (noX (fi1 s2)).bind fun items1 s3 => lcL n (wipeD s3.S vs1) tg1 ft1 fe (fun s4 => lcL2 n S0 tg ft fi1 tg1 vs1 ft1 fe fin xs s4) items1 s3
      | false => lcL2 n S0 tg ft fi1 tg1 vs1 ft1 fe fin xs s2
def eLc2G (en : Nat → List (Option D) → ST → Out D) (fi : FI) (tg : Tg) (vs : List Nat) (ft : FT) (fi1 : FI) (tg1 : Tg) (vs1 : List Nat) (ft1 : FT) (fe : FE) : FE := fun s => (fi s).bind fun items s1 =>
  lcL2 s1.L.length (wipeD s1.S vs) tg ft fi1 tg1 vs1 ft1 fe (en s1.L.length s1.S) items { s1 with L := s1.L ++ [.lst []] }
def eLc2 := eLc2G lcEnd
def eLc2L := eLc2G lcEndL
section
variable {K : PySem.W.Frag} {W : WX} {H0 : Hp} {φ0 φb ψb φ2 ψ2 : List Addr} {Hb H1 H2 : Hp} {σ σw : L2.St} {Q : VK} {tg tg1 : Tg} {ft ft1 : FT} {fi1 : FI} {fe : FE} {fin : ST → Out D} {S0 : List (Option D)} {vs vs1 : List Nat} {J : It} {D0 : Addr} {n : Nat}
theorem lc2_walk {items : List PyData} {s : ST} {Z : Hp → Prop} (it : ItOk K J H1 items) (fs1 : FS H1 H2) (hn : ψ2[n]? = some D0) (hw : ∀ i ∈ tg.sl, i ∈ vs) (hw1 : ∀ i ∈ tg1.sl, i ∈ vs1) (hwp : wipe σw vs = σw) (S2 : Sim K H0 φ0 φ2 ψ2 H2 { s with S := S0 } σw)
    (o : OutE K W H0 φ0 φb ψb Hb σ Q (lcL2 n S0 tg ft fi1 tg1 vs1 ft1 fe fin items s))
    (done : ∀ φ' ψ' H' (s' : ST), Ext φ2 ψ2 H2 φ' ψ' H' → Sim K H0 φ0 φ' ψ' H' { s' with S := S0 } σw → OutE K W H0 φ0 φb ψb Hb σ Q (fin { s' with S := S0 }) → Z H') :
    ∃ Wm : Nat → Nat → Hp → Prop, (∃ m, Wm 0 m H2) ∧ ∀ i m H, Wm i m H → (J.stop i H ∧ Z H) ∨ (J.go i H ∧ ∃ Nx : Hp → Prop, (∀ H', Nx H' → ∃ m', m' < m ∧ Wm (i + 1) m' H') ∧ ∀ x H', J.yld i H x H' →
      tg.g K x σw H' fun σ2 H2 => wipe σ2 vs = σw ∧ tT K WF ft σ2 H2 fun b H3 =>
        if b = true then tI K WF fi1 σ2 H3 fun J1 H4 => ∃ W1 : Nat → Nat → Hp → Prop, (∃ m, W1 0 m H4) ∧ ∀ j k H, W1 j k H →
          (J1.stop j H ∧ Nx H) ∨ (J1.go j H ∧ ∃ Nx1 : Hp → Prop, (∀ H', Nx1 H' → ∃ k', k' < k ∧ W1 (j + 1) k' H') ∧ ∀ x H', J1.yld j H x H' → tg1.g K x (wipe σ2 vs1) H' fun σ3 H5 => wipe σ3 vs1 = wipe σ2 vs1 ∧ tT K WF ft1 σ3 H5 fun b H6 =>
            if b = true then tE K WF fe σ3 H6 fun y H7 => ∃ acc, H7 D0 = some (.lst acc) ∧ acc.length < sizeLine ∧ Nx1 (upd H7 D0 (.lst (acc ++ [y]))) else Nx1 H6)
        else Nx H3) := by
  refine walkLc it (fun i H => ∃ φ' ψ', ∃ s' : ST, Ext φ2 ψ2 H2 φ' ψ' H ∧ Sim K H0 φ0 φ' ψ' H { s' with S := S0 } σw ∧ OutE K W H0 φ0 φb ψb Hb σ Q (lcL2 n S0 tg ft fi1 tg1 vs1 ft1 fe fin (items.drop i) s')) (fun i H ⟨φ', ψ', s', x, _⟩ => fs1.trans x.f) ⟨φ2, ψ2, s, Ext.refl _ _ _, S2, o⟩ ?_ ?_
  · rintro i x H v H' ei ⟨φ', ψ', s', x2, S', o'⟩ sm dp
    rw [drop_at ei] at o'
    unfold lcL2 at o'
    cases ep : tg.put (.py x) { s' with S := S0 } with
    | none => rw [ep] at o'; exact o'.elim
    | some s1 =>
      rw [ep] at o'
      have S3 := S'.grow sm
      have x3 : Ext φ2 ψ2 H2 φ' ψ' H' := x2.trans (Ext.grow sm)
      refine Tg.run S3 (d := .py x) dp ep fun σ' wp S4 => ⟨by rw [wp vs hw, hwp], ⟨H0, φ0, φ', ψ', s1, S4, OutE.bTX (fun b s5 φ5 ψ5 H5 x5 S5 o5 => ?_) o'⟩⟩
      have x25 : Ext φ2 ψ2 H2 φ5 ψ5 H5 := x3.trans x5
      cases b with
      | true =>
        rw [if_pos rfl]
        refine ⟨H0, φ0, φ5, ψ5, s5, S5, OutE.bIX (fun items1 s6 φ6 ψ6 H6 J1 x6 S6 it6 o6 => ?_) o5⟩
        have x26 : Ext φ2 ψ2 H2 φ6 ψ6 H6 := x25.trans x6
        exact lc_walk it6 (Same.refl _) (x26.q _ _ hn) hw1 (wipe_wipe _ _) (S6.wipe vs1) o6 fun φ7 ψ7 H7 s7 x7 S7 o7 => ⟨φ7, ψ7, _, x26.trans x7, S7.back S2 (x26.trans x7), o7⟩
      | false =>
        rw [if_neg Bool.false_ne_true]
        exact ⟨φ5, ψ5, s5, x25, S5.back S2 x25, o5⟩
  · rintro H ⟨φ', ψ', s', x2, S', o'⟩
    rw [List.drop_length] at o'
    exact done φ' ψ' H s' x2 S' o'
end
section
variable {X : Cx} {W : WX} {elt tgx iter tgx1 iter1 : Expr} {ifs ifs1 : List Expr} {scope : Scope} {own : List (Str × Nat)} {vs1 : List Nat} {pos : Pos} {fi fi1 : FI} {tg tg1 : Tg} {ft ft1 : FT} {fe : FE} {σ : L2.St} {Q : VK}
/-- the end: the new list is let go as data -/
theorem lcEnd_ok {K : PySem.W.Frag} {H0 H1 H' : Hp} {φ0 φ1 ψ1 φ' ψ' : List Addr} {s1 s' : ST} {σ σ' : L2.St} {D0 : Addr} {Q : VK} (S1 : Sim K H0 φ0 φ1 ψ1 H1 s1 σ) (hD : H1 D0 = none) (x' : Ext φ1 (ψ1 ++ [D0]) (upd H1 D0 (.lst [])) φ' ψ' H') (S' : Sim K H0 φ0 φ' ψ' H' s' σ')
    (o' : OutE K W H0 φ0 φ1 ψ1 H1 σ Q (lcEnd s1.L.length s1.S s')) : ∃ a vs, V.ref D0 = .ref a ∧ H' a = some (.lst vs) ∧ ∀ od, Q (.ref D0) (upd H' a (.frz od (.lst vs))) := by
  have hn : (ψ1 ++ [D0])[s1.L.length]? = some D0 := newL_val S1
  have g1 : Same H1 (upd H1 D0 (.lst [])) := grow_new hD
  unfold lcEnd at o'
  split at o'
  · rename_i acc el
    have hD' : ψ'[s1.L.length]? = some D0 := x'.q _ _ hn
    obtain ⟨us, h1, h2⟩ := S'.l _ D0 _ hD' el
    refine ⟨D0, us, rfl, h1, fun od => ?_⟩
    have hf : Fz H' D0 = none := Fz_lst h1
    have f : FS H' (upd H' D0 (.frz od (.lst us))) := FS.upd hf
    have S7 := S'.setL hD' hf (u := .frz od (.lst us)) (o := .flst acc) fun H'' e => by subst e; exact ⟨od, us, upd_same, dpAll_mono f _ _ h2⟩
    have p1 : Pre ψ1 (ψ'.take s1.L.length) := pre_take x'.q S1.ll.symm
    have f1 : FS H1 (upd H' D0 (.frz od (.lst us))) := (FS.same g1).trans (x'.f.trans f)
    have S8 := S7.trunc s1.L.length (S1 := s1.S) (σ' := σ) S1.sl fun i d h => let ⟨v, w1, w2⟩ := S1.s i d h; ⟨v, w1, w2.mono f1 x'.p p1⟩
    have e9 : (s'.L.set s1.L.length (.flst acc)).take s1.L.length = s'.L.take s1.L.length := by rw [List.take_set_of_le (Nat.le_refl _)]
    simp only [e9] at S8
    exact o' φ' (ψ'.take s1.L.length) _ _ ⟨f1, x'.p, p1⟩ S8 (.lst (.inl (.inr ⟨od, Fz_frz upd_same⟩)) (dpAll_mono f _ _ h2))
  · exact o'.elim
theorem lcEndL_ok {K : PySem.W.Frag} {H0 H1 H' : Hp} {φ0 φ1 ψ1 φ' ψ' : List Addr} {s1 s' : ST} {σ σ' : L2.St} {D0 : Addr} {Q : VK} (S1 : Sim K H0 φ0 φ1 ψ1 H1 s1 σ) (hD : H1 D0 = none) (x' : Ext φ1 (ψ1 ++ [D0]) (upd H1 D0 (.lst [])) φ' ψ' H') (S' : Sim K H0 φ0 φ' ψ' H' s' σ')
    (o' : OutE K W H0 φ0 φ1 ψ1 H1 σ Q (lcEndL s1.L.length s1.S s')) : Q (.ref D0) H' := by
  have hn : (ψ1 ++ [D0])[s1.L.length]? = some D0 := newL_val S1
  have g1 : Same H1 (upd H1 D0 (.lst [])) := grow_new hD
  have hD' : ψ'[s1.L.length]? = some D0 := x'.q _ _ hn
  have p1 : Pre ψ1 (ψ'.take (s1.L.length + 1)) := fun m a e => by
    have hl : m < ψ1.length := (List.getElem?_eq_some_iff.mp e).1
    have := S1.ll
    rw [List.getElem?_take_of_lt (by omega)]
    exact x'.q m a (Pre.app ψ1 [D0] m a e)
  have f1 : FS H1 H' := (FS.same g1).trans x'.f
  have S8 := S'.trunc (s1.L.length + 1) (S1 := s1.S) (σ' := σ) S1.sl fun i d h => let ⟨v, w1, w2⟩ := S1.s i d h; ⟨v, w1, w2.mono f1 x'.p p1⟩
  exact o' φ' (ψ'.take (s1.L.length + 1)) _ _ ⟨f1, x'.p, p1⟩ S8 ⟨D0, by rw [List.getElem?_take_of_lt (by omega)]; exact hD', rfl⟩
abbrev BPG (X : Cx) (scope : Scope) (tgx : Expr) (tg : Tg) : Prop := ∀ (s : Shared) (H : Hp) (C : Addr) (cl : List (Str × Addr)) (fp : List Addr), PGD (X.blk s H scope (compEnvC scope cl C X.env) fp) tgx tg
abbrev BPTs (X : Cx) (scope : Scope) (ifs : List Expr) (ft : FT) : Prop := ∀ (s : Shared) (H : Hp) (C : Addr) (cl : List (Str × Addr)) (fp : List Addr), PTsD (X.blk s H scope (compEnvC scope cl C X.env) fp) WF ifs ft
abbrev BPE (X : Cx) (scope : Scope) (elt : Expr) (fe : FE) : Prop := ∀ (s : Shared) (H : Hp) (C : Addr) (cl : List (Str × Addr)) (fp : List Addr), PED (X.blk s H scope (compEnvC scope cl C X.env) fp) WF elt fe
abbrev BPI (X : Cx) (scope : Scope) (tgx iter : Expr) (fi : FI) : Prop := ∀ (s : Shared) (H : Hp) (C : Addr) (cl : List (Str × Addr)) (fp : List Addr), PID (X.blk s H scope (compEnvC scope cl C X.env) fp) WF tgx iter fi
/-- the readings, from the mirrors -/
theorem read_lc {K : PySem.W.Frag} (hw : ∀ i ∈ tg.sl, i ∈ own.map (·.2)) {H : Hp} (h : tE K W (eLc fi tg (own.map (·.2)) ft fe) σ H Q) : tFrz (tLc (tI K W fi) (tg.g K) (tT K WF ft) (tE K WF fe) (own.map (·.2))) σ H Q := by
  obtain ⟨H0, φ0, φ, ψ, s, S, o⟩ := h
  exact ⟨H0, φ0, φ, ψ, s, S, OutE.bI' (fun items s1 φ1 ψ1 H1 J x1 S1 it o1 => fun D0 hD => by
    have S2 := S1.newL (u := .lst []) (o := .lst []) hD fun H' e => by subst e; exact ⟨[], upd_same, .nil⟩
    exact lc_walk (Z := fun H => _ ∨ _) it (FS.same (grow_new hD)) (newL_val S1) hw (wipe_wipe _ _) (S2.wipe (own.map (·.2))) o1 fun φ' ψ' H' s' x' S' o' => .inr (lcEnd_ok S1 hD x' S' o')) o⟩
theorem read_lcL {K : PySem.W.Frag} (hw : ∀ i ∈ tg.sl, i ∈ own.map (·.2)) {H : Hp} (h : tE K W (eLcL fi tg (own.map (·.2)) ft fe) σ H Q) : tLc (tI K W fi) (tg.g K) (tT K WF ft) (tE K WF fe) (own.map (·.2)) σ H Q := by
  obtain ⟨H0, φ0, φ, ψ, s, S, o⟩ := h
  exact ⟨H0, φ0, φ, ψ, s, S, OutE.bI' (fun items s1 φ1 ψ1 H1 J x1 S1 it o1 => fun D0 hD => by
    have S2 := S1.newL (u := .lst []) (o := .lst []) hD fun H' e => by subst e; exact ⟨[], upd_same, .nil⟩
    exact lc_walk it (FS.same (grow_new hD)) (newL_val S1) hw (wipe_wipe _ _) (S2.wipe (own.map (·.2))) o1 fun φ' ψ' H' s' x' S' o' => lcEndL_ok S1 hD x' S' o') o⟩
theorem read_lc2 {K : PySem.W.Frag} (hw : ∀ i ∈ tg.sl, i ∈ own.map (·.2)) (hw1 : ∀ i ∈ tg1.sl, i ∈ vs1) {H : Hp} (h : tE K W (eLc2 fi tg (own.map (·.2)) ft fi1 tg1 vs1 ft1 fe) σ H Q) :
    tFrz (tLc2 (tI K W fi) (tg.g K) (tT K WF ft) (tI K WF fi1) (tg1.g K) (tT K WF ft1) (tE K WF fe) (own.map (·.2)) vs1) σ H Q := by
  obtain ⟨H0, φ0, φ, ψ, s, S, o⟩ := h
  exact ⟨H0, φ0, φ, ψ, s, S, OutE.bI' (fun items s1 φ1 ψ1 H1 J x1 S1 it o1 => fun D0 hD => by
    have S2 := S1.newL (u := .lst []) (o := .lst []) hD fun H' e => by subst e; exact ⟨[], upd_same, .nil⟩
    exact lc2_walk (Z := fun H => _ ∨ _) it (FS.same (grow_new hD)) (newL_val S1) hw hw1 (wipe_wipe _ _) (S2.wipe (own.map (·.2))) o1 fun φ' ψ' H' s' x' S' o' => .inr (lcEnd_ok S1 hD x' S' o')) o⟩
theorem read_lc2L {K : PySem.W.Frag} (hw : ∀ i ∈ tg.sl, i ∈ own.map (·.2)) (hw1 : ∀ i ∈ tg1.sl, i ∈ vs1) {H : Hp} (h : tE K W (eLc2L fi tg (own.map (·.2)) ft fi1 tg1 vs1 ft1 fe) σ H Q) :
    tLc2 (tI K W fi) (tg.g K) (tT K WF ft) (tI K WF fi1) (tg1.g K) (tT K WF ft1) (tE K WF fe) (own.map (·.2)) vs1 σ H Q := by
  obtain ⟨H0, φ0, φ, ψ, s, S, o⟩ := h
  exact ⟨H0, φ0, φ, ψ, s, S, OutE.bI' (fun items s1 φ1 ψ1 H1 J x1 S1 it o1 => fun D0 hD => by
    have S2 := S1.newL (u := .lst []) (o := .lst []) hD fun H' e => by subst e; exact ⟨[], upd_same, .nil⟩
    exact lc2_walk it (FS.same (grow_new hD)) (newL_val S1) hw hw1 (wipe_wipe _ _) (S2.wipe (own.map (·.2))) o1 fun φ' ψ' H' s' x' S' o' => lcEndL_ok S1 hD x' S' o') o⟩
theorem ped_lcL (hc : X.calm = true) (hN : X.N.Nodup) (hi : PID X W tgx iter fi) (ok : BlkOk X.N X.env.scope scope own) (hg : BPG X scope tgx tg) (ht : BPTs X scope ifs ft) (he : BPE X scope elt fe) (hw : ∀ i ∈ tg.sl, i ∈ own.map (·.2)) (hs : ∀ x, foldedSetIterable iter X.env x = pure x := by intro _; rfl) :
    PED X W (.ListComp elt [⟨tgx, iter, ifs, 0⟩] scope pos) (eLcL fi tg (own.map (·.2)) ft fe) := PE.imp (pe_lc hc hN hi ok hg ht he hs) fun σ H Q h => read_lcL hw h
theorem ped_lc2 (hc : X.calm = true) (hN : X.N.Nodup) (hi : PID X W tgx iter fi) (ok : BlkOk X.N X.env.scope scope own) (hv : ∀ i ∈ vs1, i ∈ own.map (·.2)) (hg : BPG X scope tgx tg) (ht : BPTs X scope ifs ft) (hi1 : BPI X scope tgx1 iter1 fi1) (hg1 : BPG X scope tgx1 tg1) (ht1 : BPTs X scope ifs1 ft1) (he : BPE X scope elt fe)
    (hw : ∀ i ∈ tg.sl, i ∈ own.map (·.2)) (hw1 : ∀ i ∈ tg1.sl, i ∈ vs1) (hs : ∀ x, foldedSetIterable iter X.env x = pure x := by intro _; rfl) (hs1 : ∀ env x, foldedSetIterable iter1 env x = pure x := by intro _ _; rfl) :
    PED X W (.ListComp elt [⟨tgx, iter, ifs, 0⟩, ⟨tgx1, iter1, ifs1, 0⟩] scope pos) (eLc2 fi tg (own.map (·.2)) ft fi1 tg1 vs1 ft1 fe) := PE.imp (pe_frz (pe_lc2 hc hN hi ok hv hg ht hi1 hg1 ht1 he hs hs1)) fun σ H Q h => read_lc2 hw hw1 h
end
end DL

set_option Elab.async false
set_option linter.all false
set_option maxRecDepth 100000
set_option maxHeartbeats 2000000
namespace DL
open PySem PySem.Spec PyProof.Rows L2
/-! ### statements -/
section
variable {K : PySem.W.Frag} {W : WX} {H0 : Hp} {φ0 φ ψ : List Addr} {H : Hp}
/-- what a statement's end is to be, in a state -/
def FlOk (K : PySem.W.Frag) (φ ψ : List Addr) (H : Hp) (D : Ends) (σ : L2.St) : Fl → Prop
  | .nx => D.nx σ H
  | .bk => D.bk σ H
  | .ct => D.ct σ H
  | .ret d => ∀ v, RepD K H φ ψ d v → D.rt v H
theorem OutS.ok {fl : Fl} {s : ST} {D : Ends} {φ' ψ' : List Addr} {H' : Hp} {σ' : L2.St} (h : OutS K W H0 φ0 φ ψ H D (.ok fl s)) (x : Ext φ ψ H φ' ψ' H') (S : Sim K H0 φ0 φ' ψ' H' s σ') : FlOk K φ' ψ' H' D σ' fl := by
  cases fl with
  | nx => exact h φ' ψ' H' σ' x S
  | bk => exact h φ' ψ' H' σ' x S
  | ct => exact h φ' ψ' H' σ' x S
  | ret d => exact fun v r => h φ' ψ' H' σ' v x S r
theorem OutS.bS' {g : Fl → ST → Out Fl} {D D' : Ends} (hq : ∀ fl s' φ' ψ' H' σ', Ext φ ψ H φ' ψ' H' → Sim K H0 φ0 φ' ψ' H' s' σ' → OutS K W H0 φ0 φ' ψ' H' D (g fl s') → FlOk K φ' ψ' H' D' σ' fl) : ∀ {o : Out Fl}, OutS K W H0 φ0 φ ψ H D (o.bind g) → OutS K W H0 φ0 φ ψ H D' o
  | .ok .nx s', h => fun φ' ψ' H' σ' x S => hq .nx s' φ' ψ' H' σ' x S (OutS.ext x h)
  | .ok .bk s', h => fun φ' ψ' H' σ' x S => hq .bk s' φ' ψ' H' σ' x S (OutS.ext x h)
  | .ok .ct s', h => fun φ' ψ' H' σ' x S => hq .ct s' φ' ψ' H' σ' x S (OutS.ext x h)
  | .ok (.ret d) s', h => fun φ' ψ' H' σ' v x S r => hq (.ret d) s' φ' ψ' H' σ' x S (OutS.ext x h) v r
  | .exc _ _ _, h => h
  | .no, h => h
  | .pick n f, h => fun i hi => OutS.bS' hq (o := f i) (h i hi)
end
def sNx : FSt := fun s => .ok .nx s
def sBk : FSt := fun s => .ok .bk s
def sCt : FSt := fun s => .ok .ct s
def sSeq (f g : FSt) : FSt := fun s => (f s).bind fun fl s1 => match fl with
  | .nx => g s1
  | .bk => .ok .bk s1
  | .ct => .ok .ct s1
  | .ret d => .ok (.ret d) s1
def sExpr (f : FE) : FSt := fun s => (f s).bind fun _ s1 => .ok .nx s1
def sRet (f : FE) : FSt := fun s => (f s).bind fun d s1 => .ok (.ret d) s1
def sRetN : FSt := fun s => .ok (.ret (.py .none)) s
def sIf (t : FT) (f g : FSt) : FSt := fun s => (t s).bind fun b s1 => match b with
  | true => f s1
  | false => g s1
def sPut (tg : Tg) (d : D) (s : ST) : Out Fl := match tg.put d s with
  | some s2 => .ok .nx s2
  | none => .no
def sAsg (tg : Tg) (f : FE) : FSt := fun s => (f s).bind fun d s1 => sPut tg d s1
def sNever : FSt := fun _ => .no
section
variable {X : Cx} {W : WX} {st : Stmt} {rest : List Stmt} {f g : FSt} {a e tgx : Expr} {fe : FE} {pos : Pos} {ta : FT} {tg : Tg}
theorem psd_nil : PSsD X W [] sNx := PSs.imp pss_nil fun D σ H ⟨H0, φ0, φ, ψ, s, S, o⟩ => o φ ψ H σ (Ext.refl _ _ _) S
theorem psd_one (h1 : PSD X W st f) : PSsD X W [st] f := pss_one h1
theorem psd_cons (h1 : PSD X W st f) (h2 : PSsD X W rest g) : PSsD X W (st :: rest) (sSeq f g) :=
  PSs.imp (pss_cons h1 h2) fun D σ H ⟨H0, φ0, φ, ψ, s, S, o⟩ => ⟨H0, φ0, φ, ψ, s, S, OutS.bS' (fun fl s1 φ1 ψ1 H1 σ1 x1 S1 o1 => by
    cases fl with
    | nx => exact ⟨H0, φ0, φ1, ψ1, s1, S1, o1⟩
    | bk => exact o1.ok (Ext.refl _ _ _) S1
    | ct => exact o1.ok (Ext.refl _ _ _) S1
    | ret d => exact o1.ok (Ext.refl _ _ _) S1) o⟩
theorem psd_pass : PSD X W (.Pass pos) sNx := PS.imp ps_pass fun D σ H ⟨H0, φ0, φ, ψ, s, S, o⟩ => o φ ψ H σ (Ext.refl _ _ _) S
theorem psd_break : PSD X W (.Break pos) sBk := PS.imp ps_break fun D σ H ⟨H0, φ0, φ, ψ, s, S, o⟩ => o φ ψ H σ (Ext.refl _ _ _) S
theorem psd_continue : PSD X W (.Continue pos) sCt := PS.imp ps_continue fun D σ H ⟨H0, φ0, φ, ψ, s, S, o⟩ => o φ ψ H σ (Ext.refl _ _ _) S
theorem psd_expr (he : PED X W e fe) (hs : swapsWith e none pos.line X.env = pure false := by rfl) : PSD X W (.Expr e pos) (sExpr fe) :=
  PS.imp (ps_expr he hs) fun D σ H ⟨H0, φ0, φ, ψ, s, S, o⟩ => ⟨H0, φ0, φ, ψ, s, S, OutS.bE o fun d s1 φ1 ψ1 H1 v x1 S1 r1 o1 => o1 φ1 ψ1 H1 σ (Ext.refl _ _ _) S1⟩
theorem psd_ret (he : PED X W e fe) : PSD X W (.Return (some e) pos) (sRet fe) :=
  PS.imp (ps_ret he) fun D σ H ⟨H0, φ0, φ, ψ, s, S, o⟩ => ⟨H0, φ0, φ, ψ, s, S, OutS.bE o fun d s1 φ1 ψ1 H1 v x1 S1 r1 o1 => o1 φ1 ψ1 H1 σ v (Ext.refl _ _ _) S1 r1⟩
theorem psd_retN : PSD X W (.Return none pos) sRetN := PS.imp ps_retN fun D σ H ⟨H0, φ0, φ, ψ, s, S, o⟩ => o φ ψ H σ _ (Ext.refl _ _ _) S .non
theorem psd_never : PSD X W st sNever := PS.imp ps_never fun D σ H ⟨H0, φ0, φ, ψ, s, S, o⟩ => o
theorem psd_if {p q : List Stmt} (hc : PTD X W a ta) (hp : PSsD X W p f) (hq : PSsD X W q g) : PSD X W (.If a p q pos) (sIf ta f g) :=
  PS.imp (ps_if hc hp hq) fun D σ H ⟨H0, φ0, φ, ψ, s, S, o⟩ => ⟨H0, φ0, φ, ψ, s, S, OutS.bT o fun b s1 φ1 ψ1 H1 x1 S1 o1 => by
    cases b with
    | true => rw [if_pos rfl]; exact ⟨H0, φ0, φ1, ψ1, s1, S1, o1⟩
    | false => rw [if_neg Bool.false_ne_true]; exact ⟨H0, φ0, φ1, ψ1, s1, S1, o1⟩⟩
theorem sPut_ok {K : PySem.W.Frag} {H0 H : Hp} {φ0 φ ψ : List Addr} {s : ST} {σ : L2.St} {d : D} {v : V} {D' : Ends} (S : Sim K H0 φ0 φ ψ H s σ) (r : RepD K H φ ψ d v) (o : OutS K W H0 φ0 φ ψ H D' (sPut tg d s)) : tg.g K v σ H D'.nx := by
  unfold sPut at o
  split at o
  · rename_i s2 ep
    exact Tg.run S r ep fun σ' _ S' => o φ ψ H σ' (Ext.refl _ _ _) S'
  · exact o.elim
theorem psd_asg (he : PED X W e fe) (hg : PGD X tgx tg) (hs : swapsWithSole [tgx] e pos.line X.env = pure false := by rfl) (hw : swappedStores [tgx] e X.env = pure none := by rfl)
    (h1 : (assignEach [tgx] X.env).map (·.2) = [assign tgx X.env] := by rfl) : PSD X W (.Assign [tgx] e pos) (sAsg tg fe) :=
  PS.imp (ps_asg he hg hs hw h1) fun D σ H ⟨H0, φ0, φ, ψ, s, S, o⟩ => ⟨H0, φ0, φ, ψ, s, S, OutS.bE o fun d s1 φ1 ψ1 H1 v x1 S1 r1 o1 => sPut_ok S1 r1 o1⟩
theorem psd_set {i : Nat} {x : Str} {pos' : Pos} (hN : X.N.Nodup) (hi : X.N[i]? = some x) (hx : Loc X.env.scope x) (he : PED X W e fe) (hs : swapsWith e (some (.Name x pos')) pos.line X.env = pure false := by rfl) (hf : X.fn x = true ∨ X.env.scope.names.lookup x = some .local := by first | exact .inl rfl | exact .inr rfl | assumption) :
    PSD X W (.Assign [.Name x pos'] e pos) (sAsg (.one i) fe) :=
  PS.imp (ps_set hN hi hx he hs hf) fun D σ H ⟨H0, φ0, φ, ψ, s, S, o⟩ => ⟨H0, φ0, φ, ψ, s, S, OutS.bE o fun d s1 φ1 ψ1 H1 v x1 S1 r1 o1 => sPut_ok (tg := .one i) S1 r1 o1⟩
/-! name = [..] -/
theorem ps_frz {t : TS} (h : PS X st t) : PS X st (fun D σ H => t { D with nx := fun σ' H' => D.nx σ' H' ∨ ∃ a vs, H' a = some (.lst vs) ∧ ∀ od, D.nx σ' (upd H' a (.frz od (.lst vs))) } σ H) := ⟨fun pins s σ H D I hw =>
  thn (h.run pins s σ H _ I hw) fun fl s1 q => by
    cases fl with
    | next =>
      obtain ⟨σ', H', I', q⟩ := q
      rcases q with q | ⟨a, vs, hH, q⟩
      · exact ⟨σ', H', I', q⟩
      · obtain ⟨od, J⟩ := Inv.lock I' hH trivial
        exact ⟨σ', _, J, q od⟩
    | brk => exact q
    | cont => exact q
    | ret v => exact q⟩
section
variable {elt iter tg1x iter1 : Expr} {ifs ifs1 : List Expr} {scope : Scope} {own : List (Str × Nat)} {vs1 : List Nat} {spos py : Pos} {fi fi1 : FI} {tg1 : Tg} {ft ft1 : FT} {i : Nat} {y : Str}
theorem asg_read {K : PySem.W.Frag} {D : Ends} {σ : L2.St} {H : Hp} (h : tS K W (sAsg (.one i) fe) D σ H) : tE K W fe σ H fun x H1 => D.nx (σ.set i (some x)) H1 := by
  obtain ⟨H0, φ0, φ, ψ, s, S, o⟩ := h
  exact ⟨H0, φ0, φ, ψ, s, S, OutS.bE o fun d s1 φ1 ψ1 H1 v x1 S1 r1 o1 => o1 φ1 ψ1 H1 _ (Ext.refl _ _ _) (S1.setS r1)⟩
theorem tLc_mono {wi : TI} {g : TG} {tt : TT} {te : TE} {vs : List Nat} {σ : L2.St} {H : Hp} {Q Q' : VK} (mi : ∀ R R' : It → Hp → Prop, (∀ J H, R J H → R' J H) → wi σ H R → wi σ H R') (k : ∀ v H, Q v H → Q' v H) (h : tLc wi g tt te vs σ H Q) : tLc wi g tt te vs σ H Q' :=
  mi _ _ (fun J H1 r D hD => let ⟨W, w0, t⟩ := r D hD; ⟨W, w0, fun i m H w => (t i m H w).imp (fun ⟨a, b⟩ => ⟨a, k _ _ b⟩) id⟩) h
theorem tI_mono {K : PySem.W.Frag} {f : FI} {σ : L2.St} {H : Hp} (R R' : It → Hp → Prop) (k : ∀ J H, R J H → R' J H) (h : tI K W f σ H R) : tI K W f σ H R' := by
  obtain ⟨H0, φ0, φ, ψ, s, S, o⟩ := h
  refine ⟨H0, φ0, φ, ψ, s, S, ?_⟩
  have m : ∀ {o : Out (List PyData)}, OutI K W H0 φ0 φ ψ H σ R o → OutI K W H0 φ0 φ ψ H σ R' o := by
    intro o
    induction o with
    | ok d s' => exact fun h φ' ψ' H' J x S i => k _ _ (h φ' ψ' H' J x S i)
    | exc _ _ _ => exact id
    | no => exact id
    | pick n f ih => exact fun h i hi => ih i (h i hi)
  exact m o
theorem psd_setLc (hc : X.calm = true) (hN : X.N.Nodup) (hy : X.N[i]? = some y) (hyl : X.env.scope.names.lookup y = some .local)
    (hsw : swapsWith (.ListComp elt [⟨tg1x, iter, ifs, 0⟩] scope pos) (some (.Name y py)) spos.line X.env = pure true) (hi : PID X W tg1x iter fi) (ok : BlkOk X.N X.env.scope scope own)
    (hg : BPG X scope tg1x tg) (ht : BPTs X scope ifs ft) (he : BPE X scope elt fe) (hw : ∀ i ∈ tg.sl, i ∈ own.map (·.2)) (hs : ∀ x, foldedSetIterable iter X.env x = pure x := by intro _; rfl) :
    PSD X W (.Assign [.Name y py] (.ListComp elt [⟨tg1x, iter, ifs, 0⟩] scope pos) spos) (sAsg (.one i) (eLc fi tg (own.map (·.2)) ft fe)) :=
  PS.imp (ps_frz (ps_setLc hc hN hy hyl hsw hi ok hg ht he hs)) fun D σ H h => tLc_mono tI_mono (fun v H1 q => q.imp id fun ⟨a, vs, _, e, k⟩ => ⟨a, vs, e, k⟩) (read_lc hw (asg_read h))
theorem psd_setLcL (hc : X.calm = true) (hN : X.N.Nodup) (hy : X.N[i]? = some y) (hyl : X.env.scope.names.lookup y = some .local)
    (hsw : swapsWith (.ListComp elt [⟨tg1x, iter, ifs, 0⟩] scope pos) (some (.Name y py)) spos.line X.env = pure true) (hi : PID X W tg1x iter fi) (ok : BlkOk X.N X.env.scope scope own)
    (hg : BPG X scope tg1x tg) (ht : BPTs X scope ifs ft) (he : BPE X scope elt fe) (hw : ∀ i ∈ tg.sl, i ∈ own.map (·.2)) (hs : ∀ x, foldedSetIterable iter X.env x = pure x := by intro _; rfl) :
    PSD X W (.Assign [.Name y py] (.ListComp elt [⟨tg1x, iter, ifs, 0⟩] scope pos) spos) (sAsg (.one i) (eLcL fi tg (own.map (·.2)) ft fe)) :=
  PS.imp (ps_setLc hc hN hy hyl hsw hi ok hg ht he hs) fun D σ H h => read_lcL hw (asg_read h)
end
/-! for -/
def loopD (tg : Tg) (body : FSt) : List PyData → FSt
  | [], s => .ok .nx s
  | x :: xs, s => match tg.put (.py x) s with
    | none => .no
    | some s1 => (body s1).bind fun fl s2 => match fl with
      | .nx => loopD tg body xs s2
      | .ct => loopD tg body xs s2
      | .bk => .ok .nx s2
      | .ret d => .ok (.ret d) s2
def sFor (fi : FI) (tg : Tg) (body : FSt) : FSt := fun s => (fi s).bind fun items s1 => loopD tg body items s1
theorem psd_for {iter : Expr} {body : List Stmt} {fi : FI} (hp : PassesOwn (model X.prog X.w) X.A X.env X.xe) (hc : X.calm = true) (hi : PID X W tgx iter fi) (hg : PGD X tgx tg) (hb : PSsD X W body f) (hs : ∀ x, foldedSetIterable iter X.env x = pure x := by intro _; rfl) :
    PSD X W (.For tgx iter body [] pos) (sFor fi tg f) :=
  PS.imp (ps_for hp hc hi hg hb hs) fun D σ H ⟨H0, φ0, φ, ψ, s, S, o⟩ => ⟨H0, φ0, φ, ψ, s, S, OutS.bI' (fun items s1 φ1 ψ1 H1 J x1 S1 it o1 => by
    refine ⟨fun i m σ H => m = items.length - i ∧ i ≤ items.length ∧ ∃ φ' ψ', ∃ s' : ST, Ext φ1 ψ1 H1 φ' ψ' H ∧ Sim X.K H0 φ0 φ' ψ' H s' σ ∧ OutS X.K W H0 φ0 φ' ψ' H D (loopD tg f (items.drop i) s'), ⟨items.length, by simp, Nat.zero_le _, φ1, ψ1, s1, Ext.refl _ _ _, S1, o1⟩, ?_⟩
    rintro i m σ' H' ⟨rfl, hi, φ', ψ', s', x', S', o'⟩
    obtain ⟨g, st⟩ := it H' x'.f
    by_cases hlt : i < items.length
    · have ei : items[i]? = some items[i] := List.getElem?_eq_getElem hlt
      obtain ⟨go, y⟩ := g i items[i] ei
      refine .inr ⟨go, fun σ H => ∃ φ' ψ', ∃ s' : ST, Ext φ1 ψ1 H1 φ' ψ' H ∧ Sim X.K H0 φ0 φ' ψ' H s' σ ∧ OutS X.K W H0 φ0 φ' ψ' H D (loopD tg f (items.drop (i + 1)) s'), fun σ'' H'' p' => ⟨items.length - (i + 1), by omega, rfl, hlt, p'⟩, fun v H'' yy => ?_⟩
      obtain ⟨sm, dp⟩ := y v H'' yy
      rw [drop_at ei] at o'
      unfold loopD at o'
      cases ep : tg.put (.py items[i]) s' with
      | none => rw [ep] at o'; exact o'.elim
      | some s2 =>
        rw [ep] at o'
        have xg : Ext φ' ψ' H' φ' ψ' H'' := Ext.grow sm
        refine Tg.run (S'.grow sm) (d := .py items[i]) dp ep fun σ3 _ S3 => ⟨H0, φ0, φ', ψ', s2, S3, OutS.bS' (fun fl s4 φ4 ψ4 H4 σ4 x4 S4 o4 => ?_) (OutS.ext xg o')⟩
        cases fl with
        | nx => exact ⟨φ4, ψ4, s4, x'.trans (xg.trans x4), S4, o4⟩
        | ct => exact ⟨φ4, ψ4, s4, x'.trans (xg.trans x4), S4, o4⟩
        | bk => exact o4 φ4 ψ4 H4 σ4 (Ext.refl _ _ _) S4
        | ret d => exact fun v r => o4 φ4 ψ4 H4 σ4 v (Ext.refl _ _ _) S4 r
    · have e : i = items.length := by omega
      subst e
      rw [List.drop_length] at o'
      exact .inl ⟨st, o' φ' ψ' H' σ' (Ext.refl _ _ _) S'⟩) o⟩
/-! while, with fuel -/
def whileD (t : FT) (body : FSt) : Nat → FSt
  | 0, _ => .no
  | n + 1, s => (t s).bind fun b s1 => match b with
    | true => (body s1).bind fun fl s2 => match fl with
      | .nx => whileD t body n s2
      | .ct => whileD t body n s2
      | .bk => .ok .nx s2
      | .ret d => .ok (.ret d) s2
    | false => .ok .nx s1
theorem psd_while {body : List Stmt} (n : Nat) (hp : PassesOwn (model X.prog X.w) X.A X.env X.xe) (hc : PTD X W a ta) (hb : PSsD X W body f) : PSD X W (.While a body [] pos) (whileD ta f n) :=
  PS.imp (ps_while hp hc hb) fun D σ H ⟨H0, φ0, φ, ψ, s, S, o⟩ => by
    refine ⟨fun m σ H => ∃ φ' ψ', ∃ s' : ST, Sim X.K H0 φ0 φ' ψ' H s' σ ∧ OutS X.K W H0 φ0 φ' ψ' H D (whileD ta f m s'), ⟨n, φ, ψ, s, S, o⟩, ?_⟩
    rintro m σ' H' ⟨φ', ψ', s', S', o'⟩
    cases m with
    | zero => exact o'.elim
    | succ m =>
      unfold whileD at o'
      refine ⟨H0, φ0, φ', ψ', s', S', OutS.bT o' fun b s1 φ1 ψ1 H1 x1 S1 o1 => ?_⟩
      cases b with
      | true =>
        rw [if_pos rfl]
        refine ⟨fun σ H => ∃ φ' ψ', ∃ s' : ST, Sim X.K H0 φ0 φ' ψ' H s' σ ∧ OutS X.K W H0 φ0 φ' ψ' H D (whileD ta f m s'), fun σ'' H'' p => ⟨m, by omega, p⟩, ⟨H0, φ0, φ1, ψ1, s1, S1, OutS.bS' (fun fl s4 φ4 ψ4 H4 σ4 x4 S4 o4 => ?_) o1⟩⟩
        cases fl with
        | nx => exact ⟨φ4, ψ4, s4, S4, o4⟩
        | ct => exact ⟨φ4, ψ4, s4, S4, o4⟩
        | bk => exact o4 φ4 ψ4 H4 σ4 (Ext.refl _ _ _) S4
        | ret d => exact fun v r => o4 φ4 ψ4 H4 σ4 v (Ext.refl _ _ _) S4 r
      | false =>
        rw [if_neg Bool.false_ne_true]
        exact o1 φ1 ψ1 H1 σ' (Ext.refl _ _ _) S1
end
end DL

set_option Elab.async false
set_option linter.all false
set_option maxRecDepth 100000
set_option maxHeartbeats 2000000
namespace DL
open PySem PySem.Spec PyProof.Rows L2
/-! ### defs -/
structure FnG (P : Program) (w : World) (K : PySem.W.Frag) (mg : Str → Option Value) (base : Heap) (k : Nat) (f : Addr) (fd : FuncData) (ps : List Str) (sp : Sp) : Prop where
  len : ∀ vs H Q E, sp vs H Q E → vs.length = ps.length
  run : ∀ (A : Around) (outer : List Env) (s : Shared) (H : Hp) (args : Args) (us : List Value) (vs : List V) (Q : VK) (E : XK), Room k A → A.guards = some [] → Env0 P w K mg base A outer s H → BindsTo s fd args (ps.zip us) → Vals vs us → sp vs H Q E →
    codeAny (model P w) A (.call (.ref f) args) (CR (L2.CX P w) outer P w H s Q E) s
theorem FnG.mono {P : Program} {w : World} {K : PySem.W.Frag} {mg : Str → Option Value} {base : Heap} {j k : Nat} {f : Addr} {fd : FuncData} {ps : List Str} {sp : Sp} (F : FnG P w K mg base j f fd ps sp) (h : j ≤ k) : FnG P w K mg base k f fd ps sp :=
  ⟨F.len, fun A outer s H args us vs Q E hr => F.run A outer s H args us vs Q E (hr.mono h)⟩
theorem FnG.imp {P : Program} {w : World} {K : PySem.W.Frag} {mg : Str → Option Value} {base : Heap} {k : Nat} {f : Addr} {fd : FuncData} {ps : List Str} {sp sp' : Sp} (F : FnG P w K mg base k f fd ps sp) (h : ∀ vs H Q E, sp' vs H Q E → sp vs H Q E) : FnG P w K mg base k f fd ps sp' :=
  ⟨fun vs H Q E q => F.len vs H Q E (h _ _ _ _ q), fun A outer s H args us vs Q E hr hg he hb hv hs => F.run A outer s H args us vs Q E hr hg he hb hv (h _ _ _ _ hs)⟩
/-- the rule fn_of, where no guard stands -/
theorem fnG_of {P : Program} {w : World} {K : PySem.W.Frag} {mg : Str → Option Value} {base : Heap} {k : Nat} {f : Addr} {name qual : Str} {params : Arguments} {body : List Stmt} {scope : Scope} {dV kV doc pm cdv ct oc : Value} {an od : Option Addr}
    {osl : Array (Option Value)} {N ps : List Str} {sp : Sp} (lk : K.lookup f = some ⟨oc, od, .func (PySem.W.fnOf name qual params body scope dV kV doc pm an cdv ct), osl⟩) (hcd : PySem.W.codeIn K cdv qual = true) (S : FnScope N ps scope)
    (len : ∀ vs H Q E, sp vs H Q E → vs.length = ps.length)
    (hbody : ∀ (A : Around) (outer : List Env) (s : Shared) (H : Hp) (vs : List V) (Q : VK) (E : XK), Room k (A.deeper (envOfC qual scope s.heap.objs.size f cdv)) → A.guards = some [] → sp vs H Q E →
      ∃ t, PSs (cxOf (L2.CX P w) P w K mg base N qual scope f cdv A outer s H E) body t ∧ t { nx := fun _ H' => Q .non H', rt := Q } (start N vs) H) :
    FnG P w K mg base (k + 1) f (PySem.W.fnOf name qual params body scope dV kV doc pm an cdv ct) ps sp := by
  refine ⟨len, fun A outer s H args us vs Q E hr hgd e0 hb r hsp => ?_⟩
  have hl := len _ _ _ _ hsp
  have KX : K.In s.heap := e0.mod.kin.keeps fun b o e => (e0.bs b o e).1
  have lim : s.heap.NoLimit := e0.mod.nolimit.keeps fun b o e => (e0.bs b o e).1
  have hkind : ∀ y ∈ ps.zip us, scope.names.lookup y.1 = some .local ∨ (scope.names.lookup y.1 = some .cell ∧ ((cellsFrom (s.heap.objs.size + 1) scope.names []).lookup y.1).isSome = true) := fun ⟨n, v⟩ hy => by
    rcases S.par n (List.of_mem_zip hy).1 with q | q
    · exact .inl q
    · exact .inr ⟨q, PySem.W.cellsFrom_some _ _ _ (.inl q)⟩
  refine codeAny_call_function hr.depth (KX _ _ lk) rfl S.co S.gen rfl (PySem.W.codeRec_of KX hcd) (hb _ _ _ _ ?_)
  refine wpAny_newFunctionEnv_cells S.kind hkind fun env he s1 x => ?_
  subst he
  refine ⟨lim.keeps x.toInCall.keep, codeAny_func ?_⟩
  obtain ⟨t, ht, hq⟩ := hbody A outer s H vs Q E (hr.deeper _) hgd hsp
  have I : Inv (cxOf (L2.CX P w) P w K mg base N qual scope f cdv A outer s H E) [] (start N vs) H s1 := inv_start S hr.hd e0 hl r x
  refine wpAny_mono (ht.run [] s1 (start N vs) H _ I hq) (fun fl s' hs => ?_) fun e s' hs => hs
  have fin : ∀ {σ' : L2.St} {H' : Hp} {v : V} {u : Value}, Inv (cxOf (L2.CX P w) P w K mg base N qual scope f cdv A outer s H E) [] σ' H' s' → RelV v u → Q v H' → CE outer P w H s Q u s' :=
    fun {σ' H' v u} J rv q => ⟨v, H', J.os, J.bare, J.base, J.hok, rv, q⟩
  cases fl with
  | ret u =>
    obtain ⟨v, σ', H', J, rv, q⟩ := hs
    exact fin J rv q
  | next =>
    obtain ⟨σ', H', J, q⟩ := hs
    exact fin (v := V.non) (u := Value.none) J rfl q
  | brk =>
    obtain ⟨_, _, _, q⟩ := hs
    exact False.elim q
  | cont =>
    obtain ⟨_, _, _, q⟩ := hs
    exact False.elim q
theorem run_fnG {X : Cx} {W : WX} {k : Nat} {f : Addr} {fd : FuncData} {ps : List Str} {sp : Sp} {dvs : List V} {dds : List Value} {pins : List (Addr × Obj)} {σ : L2.St} {H : Hp} {s : Shared} {Q : VK} {us : List Value} {vs : List V}
    (F : FnG X.prog X.w X.K X.mg X.base k f fd ps sp) (hr : Room k X.A) (hgd : X.A.guards = some []) (hb : Binds X.K fd ps dds) (hd : Vals dvs dds) (tk : Takes X W)
    (I : Inv X pins σ H s) (r : Vals vs us) (h : sp (vs ++ dvs) H Q (WE W σ)) : wpAny (model X.prog X.w) X.A (call (.ref f) us) (EP X pins σ Q) X.xe s := by
  have r2 : Vals (vs ++ dvs) (us ++ dds) := r.append hd
  have hl : (us ++ dds).length = ps.length := by rw [← r2.length]; exact F.len _ _ _ _ h
  have b := hb s us I.kIn hl
  refine wpAny_call (codeAny_mono (F.run X.A X.stack s H ⟨us, []⟩ (us ++ dds) (vs ++ dvs) Q (WE W σ) hr hgd I.env0 b r2 h) fun r s' hq => ?_)
  cases r with
  | error e => exact passAt tk σ pins H s e s' I hq
  | ok fl =>
    cases fl with
    | ret u => exact I.after hq
    | next => exact False.elim hq
    | brk => exact False.elim hq
    | cont => exact False.elim hq
def tCallG (sp : Sp) (W : WX) (dvs : List V) (t : TA) : TE := fun σ H Q => t σ H fun vs H1 => sp (vs ++ dvs) H1 Q (WE W σ)
section
variable {X : Cx} {W : WX} {k : Nat} {f : Addr} {fd : FuncData} {ps : List Str} {sp : Sp} {dvs : List V} {dds : List Value} {x : Str} {p pos : Pos} {e : Expr} {es : List Expr} {t : TA}
theorem pe_callG (F : FnG X.prog X.w X.K X.mg X.base k f fd ps sp) (hr : Room k X.A) (hgd : X.A.guards = some []) (hg : Gl X x) (hm : X.mg x = some (.ref f)) (hk : PySem.W.keepIn X.K (.ref f) = true) (hb : Binds X.K fd ps dds) (hd : Vals dvs dds) (tk : Takes X W)
    (ha : PA X (e :: es) t) (hdb : (x == ("__debug__" : Str)) = false := by decide) (he : starEach (e :: es) X.env = (false, eval e X.env) :: starEach es X.env := by rfl) (hpl : (backTo pos (starEach es X.env)).any (·.1) = false := by rfl) :
    PE X (.Call (.Name x p) (e :: es) [] pos) (tCallG sp W dvs t) := by
  refine ⟨fun pins s σ H Q I h => ?_⟩
  refine wpAny_Call_Name_kw (ld_glob I hg hm ?_ hdb)
  refine PySem.W.callWith_K (h₀ := X.base) I.ok.mod.kin hk (thn (ha.run pos pins s σ H _ I h) fun us s1 ⟨vs, H1, I1, r, q⟩ => ⟨I1.kIn, ?_⟩) he hpl
  exact run_fnG F hr hgd hb hd tk I1 r q
theorem pe_callG0 (F : FnG X.prog X.w X.K X.mg X.base k f fd ps sp) (hr : Room k X.A) (hgd : X.A.guards = some []) (hg : Gl X x) (hm : X.mg x = some (.ref f)) (hk : PySem.W.keepIn X.K (.ref f) = true) (hb : Binds X.K fd ps dds) (hd : Vals dvs dds) (tk : Takes X W)
    (hdb : (x == ("__debug__" : Str)) = false := by decide) : PE X (.Call (.Name x p) [] [] pos) (tCallG sp W dvs tNil) := by
  refine ⟨fun pins s σ H Q I h => ?_⟩
  refine wpAny_Call_Name_kw (ld_glob I hg hm ?_ hdb)
  exact PySem.W.callWith_K0 I.kIn hk (run_fnG (us := []) F hr hgd hb hd tk I .nil h)
end

/-! ### what a def does -/
abbrev FF := List D → List GO → Out D
structure CExt (φ : List Addr) (H : Hp) (φ' : List Addr) (H' : Hp) : Prop where
  f : FS H H'
  p : Pre φ φ'
  new : ∀ a, a ∈ φ' → a ∈ φ ∨ H a = none
  kp : ∀ b o, H b = some o → b ∉ φ → H' b = some o
theorem CExt.refl (φ : List Addr) (H : Hp) : CExt φ H φ H := ⟨Same.refl _, Pre.refl _, fun _ h => .inl h, fun _ _ h _ => h⟩
def OutC (K : PySem.W.Frag) (φ : List Addr) (H : Hp) (Q : VK) (E : XK) : Out D → Prop
  | .ok d s' => ∀ φ' H' v, CExt φ H φ' H' → SimG K φ' H' s'.G → RepD K H' φ' [] d v → Q v H'
  | .exc C fs s' => ∀ φ' H' dd vfs, CExt φ H φ' H' → SimG K φ' H' s'.G → H' dd = some (.xd vfs) → RepF K H' fs vfs → E (.ref (He.ga K C)) (some dd) H'
  | .no => False
  | .pick n k => ∀ i, i < n → OutC K φ H Q E (k i)
def spF (K : PySem.W.Frag) (n : Nat) (f : FF) : Sp := fun vs H Q E => vs.length = n ∧ ∃ φ ds G, SimG K φ H G ∧ RepA K H φ [] ds vs ∧ OutC K φ H Q E (f ds G)
theorem RepD.nil {K : PySem.W.Frag} {H : Hp} {φ ψ : List Addr} {d : D} {v : V} (h : RepD K H φ [] d v) : RepD K H φ ψ d v := h.mono (Same.refl _) (Pre.refl _) fun _ _ e => by simp at e
def noLoc : D → Bool
  | .loc _ => false
  | _ => true
theorem RepD.noLoc {K : PySem.W.Frag} {H : Hp} {φ ψ : List Addr} : ∀ {d : D} {v : V}, RepD K H φ ψ d v → noLoc d = true → RepD K H φ [] d v
  | .py _, _, h, _ => h
  | .obj _, _, h, _ => h
  | .glob _, _, h, _ => h
  | .loc _, _, _, e => by cases e
  | .scr _, _, h, _ => h
theorem RepA.noLoc {K : PySem.W.Frag} {H : Hp} {φ ψ : List Addr} : ∀ {ds : List D} {vs : List V}, RepA K H φ ψ ds vs → ds.all DL.noLoc = true → RepA K H φ [] ds vs
  | [], _, r, _ => by cases r; exact .nil
  | d :: ds, _, r, e => by
    cases r with
    | cons r1 r2 =>
      rw [List.all_cons, Bool.and_eq_true] at e
      exact .cons (r1.noLoc e.1) (RepA.noLoc r2 e.2)
section
variable {K : PySem.W.Frag} {W : WX} {H0 H H' : Hp} {φ0 φ ψ φ' : List Addr} {s : ST} {σ : L2.St} {Q : VK}
/-- behind a call -/
theorem Sim.after (S : Sim K H0 φ0 φ ψ H s σ) (c : CExt φ H φ' H') {G : List GO} (g : SimG K φ' H' G) : Sim K H0 φ0 φ' ψ H' { s with G := G } σ where
  g := g
  ll := S.ll
  nl := S.nl
  gl := fun a h z => by
    rcases c.new a h with h | h
    · exact S.gl a h z
    · obtain ⟨o, e⟩ := S.lsome z
      rw [h] at e; cases e
  l := fun n a o h1 h2 => by
    have r := S.l n a o h1 h2
    obtain ⟨u, hu⟩ := r.some
    have nm : a ∉ φ := fun z => S.gl a z (List.mem_of_getElem? h1)
    exact r.mono c.f ((c.kp a u hu nm).trans hu.symm)
  sl := S.sl
  s := fun i d h => let ⟨v, h1, h2⟩ := S.s i d h; ⟨v, h1, h2.mono c.f c.p (Pre.refl _)⟩
  pre := S.pre.trans c.p
  fr := S.fr
  new := fun a h => by
    rcases c.new a h with h | h
    · exact S.new a h
    · cases e : H0 a with
      | none => exact .inr rfl
      | some o =>
        by_cases z : a ∈ φ0
        · exact .inl z
        · have := S.kp a o e z
          rw [h] at this; cases this
  kp := fun b o h hb => c.kp b o (S.kp b o h hb) fun z => by
    rcases S.new b z with z | z
    · exact hb z
    · rw [z] at h; cases h
  old := S.old
def inG (s : ST) : Out D → Out D
  | .ok d s' => .ok d { s with G := s'.G }
  | .exc C fs s' => .exc C fs { s with G := s'.G }
  | .no => .no
  | .pick n k => .pick n fun i => inG s (k i)
theorem outC_of (S : Sim K H0 φ0 φ ψ H s σ) : ∀ {o : Out D}, OutE K W H0 φ0 φ ψ H σ Q (inG s o) → OutC K φ H Q (WE W σ) o
  | .ok d s', h => fun φ' H' v c g r => h φ' ψ H' v ⟨c.f, c.p, Pre.refl _⟩ (S.after c g) r.nil
  | .exc C fs s', h => fun φ' H' dd vfs c g e r => h φ' ψ H' σ dd vfs ⟨c.f, c.p, Pre.refl _⟩ (S.after c g) e r
  | .no, h => h
  | .pick n k, h => fun i hi => outC_of S (h i hi)
end
def callD (n : Nat) (f : FF) (ds : List D) (s : ST) : Out D := if ds.all noLoc = true then if ds.length = n then inG s (f ds s.G) else .no else .no
def eCall (n : Nat) (f : FF) (fa : FA) : FE := fun s => (fa s).bind fun ds s1 => callD n f ds s1
/-- a def of the module that may be called -/
structure CalG (P : Program) (w : World) (K : PySem.W.Frag) (mg : Str → Option Value) (base : Heap) (k : Nat) (x : Str) (n : Nat) (f : FF) : Prop where
  ex : ∃ (fa : Addr) (fd : FuncData) (ps : List Str), FnG P w K mg base k fa fd ps (spF K n f) ∧ mg x = some (.ref fa) ∧ PySem.W.keepIn K (.ref fa) = true ∧ Binds K fd ps []
theorem CalG.mono {P : Program} {w : World} {K : PySem.W.Frag} {mg : Str → Option Value} {base : Heap} {j k : Nat} {x : Str} {n : Nat} {f : FF} (c : CalG P w K mg base j x n f) (h : j ≤ k) : CalG P w K mg base k x n f :=
  let ⟨fa, fd, ps, F, r⟩ := c.ex; ⟨fa, fd, ps, F.mono h, r⟩
section
variable {X : Cx} {W : WX} {k j n : Nat} {f : FF} {x : Str} {p pos : Pos} {e : Expr} {es : List Expr} {fs : FA}
theorem callD_ok {K : PySem.W.Frag} {H0 H : Hp} {φ0 φ ψ : List Addr} {s : ST} {σ : L2.St} {Q : VK} {ds : List D} {vs : List V} (S : Sim K H0 φ0 φ ψ H s σ) (r : RepA K H φ ψ ds vs) (o : OutE K W H0 φ0 φ ψ H σ Q (callD n f ds s)) : spF K n f (vs ++ []) H Q (WE W σ) := by
  unfold callD at o
  split at o
  · rename_i hl
    split at o
    · rename_i hn
      rw [List.append_nil]
      exact ⟨by rw [← hn]; exact r.length.symm, φ, ds, s.G, S.g, r.noLoc hl, outC_of S o⟩
    · exact o.elim
  · exact o.elim
theorem ped_call (c : CalG X.prog X.w X.K X.mg X.base k x n f) (C : Ctx X j) (hk : k ≤ j) (tk : Takes X W) (hg : Gl X x) (ha : PAD X W (e :: es) fs) (hdb : (x == ("__debug__" : Str)) = false := by decide)
    (he : starEach (e :: es) X.env = (false, eval e X.env) :: starEach es X.env := by rfl) (hpl : (backTo pos (starEach es X.env)).any (·.1) = false := by rfl) : PED X W (.Call (.Name x p) (e :: es) [] pos) (eCall n f fs) := by
  obtain ⟨fa, fd, ps, F, hm, kp, b⟩ := c.ex
  exact PE.imp (pe_callG F (C.rm.mono hk) C.gd hg hm kp b .nil tk ha hdb he hpl) fun σ H Q ⟨H0, φ0, φ, ψ, s, S, o⟩ => ⟨H0, φ0, φ, ψ, s, S, OutE.bA o fun ds s1 φ1 ψ1 H1 vs e1 S1 r1 o1 => callD_ok S1 r1 o1⟩
theorem ped_call0 (c : CalG X.prog X.w X.K X.mg X.base k x n f) (C : Ctx X j) (hk : k ≤ j) (tk : Takes X W) (hg : Gl X x) (hdb : (x == ("__debug__" : Str)) = false := by decide) : PED X W (.Call (.Name x p) [] [] pos) (eCall n f aNil) := by
  obtain ⟨fa, fd, ps, F, hm, kp, b⟩ := c.ex
  exact PE.imp (pe_callG0 F (C.rm.mono hk) C.gd hg hm kp b .nil tk hdb) fun σ H Q ⟨H0, φ0, φ, ψ, s, S, o⟩ => callD_ok S .nil o
theorem takesF {X : Cx} : Takes X WF := fun u s' ⟨_, _, _, _, _, _, _, _, _, _, _, _, _, _, _, _, w⟩ => w.elim
theorem Ctx.blk {j : Nat} (C : Ctx X j) {s : Shared} {H : Hp} {scope : Scope} {cenv : Env} {fp : List Addr} : Ctx (X.blk s H scope cenv fp) j := ⟨C.calm, C.gd, C.rm⟩
theorem Ctx.le {i : Nat} (C : Ctx X j) (h : i ≤ j) : Ctx X i := ⟨C.calm, C.gd, C.rm.mono h⟩
end
/-! ### a def by its body -/
def refOk (n : Nat) : D → Bool
  | .obj i => decide (i < n)
  | _ => true
def goOk (n : Nat) : GO → Bool
  | .dK kvs => kvs.all fun p => refOk n p.2
  | .dT kvs => kvs.all fun p => refOk n p.2
  | .ins _ fs => fs.all fun p => refOk n p.2
  | _ => true
/-- what no name reaches any longer is dropped -/
def gc (n : Nat) (G : List GO) : List GO := if (G.take n).all (goOk n) = true then G.take n else G
def lift {κ : Type} (kvs : List (κ × PyData)) : List (κ × D) := kvs.map fun p => (p.1, D.py p.2)
/-- a def's value: its own lists and dicts go out with it -/
def retD (n : Nat) (d : D) (s : ST) : Out D := match d with
  | .py p => .ok (.py p) ⟨[], [], gc n s.G⟩
  | .glob x => .ok (.glob x) ⟨[], [], gc n s.G⟩
  | .obj i => if i < n then .ok (.obj i) ⟨[], [], gc n s.G⟩ else .ok (.obj i) ⟨[], [], s.G⟩
  | .loc i => match s.L[i]? with
    | some (.lst ds) => .ok (.py (.list ds)) ⟨[], [], gc n s.G⟩
    | some (.flst ds) => .ok (.py (.list ds)) ⟨[], [], gc n s.G⟩
    | some (.dK kvs) => .ok (.obj s.G.length) ⟨[], [], s.G ++ [.dK (lift kvs)]⟩
    | some (.dT kvs) => .ok (.obj s.G.length) ⟨[], [], s.G ++ [.dT (lift kvs)]⟩
    | some (.ktup ds) => .ok (.py (.tuple ds)) ⟨[], [], gc n s.G⟩
    | none => .no
  | .scr _ => .no
def fnEnd (n : Nat) : Out Fl → Out D
  | .ok .nx s => .ok (.py .none) ⟨[], [], gc n s.G⟩
  | .ok (.ret d) s => retD n d s
  | .ok .bk _ => .no
  | .ok .ct _ => .no
  | .exc C fs s => .exc C fs ⟨[], [], gc n s.G⟩
  | .no => .no
  | .pick m k => .pick m fun i => fnEnd n (k i)
def slots (N : Nat) (ds : List D) : List (Option D) := ds.map some ++ List.replicate (N - ds.length) none
def fnRun (N : Nat) (b : FSt) : FF := fun ds G => fnEnd G.length (b ⟨slots N ds, [], G⟩)
end DL

set_option Elab.async false
set_option linter.all false
set_option maxRecDepth 100000
set_option maxHeartbeats 2000000
namespace DL
open PySem PySem.Spec PyProof.Rows L2
section
variable {K : PySem.W.Frag} {H H' : Hp} {φ φ' ψ' : List Addr} {n : Nat}
theorem RepD.shrink {d : D} {v : V} (h : RepD K H φ [] d v) (e : refOk n d = true) : RepD K H (φ.take n) [] d v := by
  cases d with
  | obj i =>
    obtain ⟨a, h1, h2⟩ := h
    have hi : i < n := by simpa [refOk] using e
    exact ⟨a, by rw [List.getElem?_take_of_lt hi]; exact h1, h2⟩
  | py p => exact h
  | glob x => exact h
  | loc i => exact h
  | scr ns => exact h
theorem paired_all {α β : Type} {F F' : α → β → Prop} {p : α → Bool} (k : ∀ x y, p x = true → F x y → F' x y) : ∀ {xs : List α} {ys : List β}, Paired F xs ys → xs.all p = true → Paired F' xs ys
  | _, _, .nil, _ => .nil
  | _, _, .cons r1 r2, e => by
    rw [List.all_cons, Bool.and_eq_true] at e
    exact .cons (k _ _ e.1 r1) (paired_all k r2 e.2)
theorem RepG.shrink {a : Addr} {o : GO} (h : RepG K H φ a o) (e : goOk n o = true) : RepG K H (φ.take n) a o := by
  cases o with
  | lst ds => exact h
  | pen => exact h
  | dK kvs => obtain ⟨vvs, h1, h2⟩ := h; exact ⟨vvs, h1, paired_all (p := fun p : Key × D => refOk n p.2) (fun x y e r => ⟨r.1, r.2.shrink e⟩) h2 e⟩
  | dT kvs => obtain ⟨vvs, h1, h2⟩ := h; exact ⟨vvs, h1, paired_all (p := fun p : List Key × D => refOk n p.2) (fun x y e r => ⟨r.1, r.2.shrink e⟩) h2 e⟩
  | ins C fs => obtain ⟨dx, vvs, h1, h2⟩ := h; exact ⟨dx, vvs, h1, paired_all (p := fun p : Str × D => refOk n p.2) (fun x y e r => ⟨r.1, r.2.shrink e⟩) h2 e⟩
theorem gc_sim {G : List GO} (g : SimG K φ' H G) (p : Pre φ φ') (hn : φ.length = n) : ∃ φ'', SimG K φ'' H (gc n G) ∧ Pre φ φ'' ∧ (∀ a, a ∈ φ'' → a ∈ φ') ∧ ∀ (i : Nat) a, i < n → φ'[i]? = some a → φ''[i]? = some a := by
  unfold gc
  split
  · rename_i e
    refine ⟨φ'.take n, ⟨by simp [g.len], g.nd.sublist (List.take_sublist _ _), fun i a o h1 h2 => ?_⟩, fun i a h => ?_, fun a h => List.mem_of_mem_take h, fun i a hi h => by rw [List.getElem?_take_of_lt hi]; exact h⟩
    · exact (g.at_ i a o (take_get h1) (take_get h2)).shrink (List.all_eq_true.mp e o (List.mem_of_getElem? h2))
    · have hi : i < φ.length := (List.getElem?_eq_some_iff.mp h).1
      rw [List.getElem?_take_of_lt (by omega)]
      exact p i a h
  · exact ⟨φ', g, p, fun a h => h, fun i a _ h => h⟩
/-- the def's end -/
def tFrzR (t : TS) : TS := fun D σ H => t { D with rt := fun v H' => D.rt v H' ∨ ∃ a vs, v = .ref a ∧ H' a = some (.lst vs) ∧ ∀ od, D.rt v (upd H' a (.frz od (.lst vs))) } σ H
theorem pss_frzR {X : Cx} {st : List Stmt} {t : TS} (h : PSs X st t) : PSs X st (tFrzR t) := ⟨fun pins s σ H D I hw =>
  thn (h.run pins s σ H _ I hw) fun fl s1 q => by
    cases fl with
    | next => exact q
    | brk => exact q
    | cont => exact q
    | ret u =>
      obtain ⟨v, σ', H', I', r, q⟩ := q
      rcases q with q | ⟨a, vs, e1, hH, q⟩
      · exact ⟨v, σ', H', I', r, q⟩
      · obtain ⟨od, J⟩ := Inv.lock I' hH trivial
        exact ⟨v, σ', _, J, r, q od⟩⟩
theorem lift_paired {κ : Type} {kvs : List (κ × PyData)} {vvs : List (κ × V)} (h : Paired (fun (p : κ × PyData) (q : κ × V) => p.1 = q.1 ∧ Dp [] (Fz H) q.2 p.2) kvs vvs) : Paired (fun (p : κ × D) (q : κ × V) => p.1 = q.1 ∧ RepD K H φ [] p.2 q.2) (lift kvs) vvs := by
  induction h with
  | nil => exact .nil
  | cons r _ ih => exact .cons r ih
theorem Sim.cext {s : ST} {σ : L2.St} (S : Sim K H φ φ' ψ' H' s σ) (x : FS H H') {φ'' : List Addr} (p : Pre φ φ'') (k : ∀ a, a ∈ φ'' → a ∈ φ') : CExt φ H φ'' H' := ⟨x, p, fun a h => S.new a (k a h), S.kp⟩
/-- a local object goes out -/
theorem simG_out {s : ST} {σ : L2.St} (S : Sim K H φ φ' ψ' H' s σ) {i : Nat} {a : Addr} {o : GO} (ha : ψ'[i]? = some a) (r : RepG K H' (φ' ++ [a]) a o) : SimG K (φ' ++ [a]) H' (s.G ++ [o]) := by
  have am : a ∈ ψ' := List.mem_of_getElem? ha
  refine ⟨by simp [S.g.len], List.nodup_append.mpr ⟨S.g.nd, by simp, fun b hb c hc => by simp at hc; subst hc; intro z; subst z; exact S.gl b hb am⟩, fun m b u h1 h2 => ?_⟩
  by_cases hm : m < φ'.length
  · rw [List.getElem?_append_left hm] at h1
    rw [List.getElem?_append_left (by rw [← S.g.len]; exact hm)] at h2
    exact (S.g.at_ m b u h1 h2).mono (Same.refl _) (Pre.app _ _) rfl
  · have hl : m < (φ' ++ [a]).length := (List.getElem?_eq_some_iff.mp h1).1
    have e1 : m = φ'.length := by simp at hl; omega
    subst e1
    have e2 : b = a := by simpa using h1.symm
    subst e2
    have e3 : u = o := by rw [S.g.len] at h2; simpa using h2.symm
    subst e3
    exact r
theorem retD_ok {s : ST} {σ : L2.St} {Q : VK} {E : XK} {d : D} {v : V} (S : Sim K H φ φ' ψ' H' s σ) (x : FS H H') (hn : φ.length = n) (r : RepD K H' φ' ψ' d v) (o : OutC K φ H Q E (retD n d s)) :
    Q v H' ∨ ∃ a vs, v = .ref a ∧ H' a = some (.lst vs) ∧ ∀ od, Q v (upd H' a (.frz od (.lst vs))) := by
  obtain ⟨φ'', g, p, k, at_⟩ := gc_sim S.g S.pre hn
  have c := S.cext x p k
  cases d with
  | py q => exact .inl (o φ'' H' v c g r)
  | glob z => exact .inl (o φ'' H' v c g r)
  | obj i =>
    obtain ⟨a, h1, h2⟩ := r
    unfold retD at o
    dsimp only at o
    split at o
    · rename_i hi
      exact .inl (o φ'' H' v c g ⟨a, at_ i a hi h1, h2⟩)
    · exact .inl (o φ' H' v (S.cext x S.pre fun _ h => h) S.g ⟨a, h1, h2⟩)
  | loc i =>
    obtain ⟨a, ha, rfl⟩ := r
    have am : a ∈ ψ' := List.mem_of_getElem? ha
    unfold retD at o
    dsimp only at o
    split at o
    · rename_i ds el
      obtain ⟨vs, h1, h2⟩ := S.l i a _ ha el
      refine .inr ⟨a, vs, rfl, h1, fun od => ?_⟩
      have hf : Fz H' a = none := Fz_lst h1
      have f : FS H' (upd H' a (.frz od (.lst vs))) := FS.upd hf
      have S2 := S.setL ha hf (u := .frz od (.lst vs)) (o := .flst ds) fun H'' e => by subst e; exact ⟨od, vs, upd_same, dpAll_mono f _ _ h2⟩
      obtain ⟨φ3, g3, p3, k3, _⟩ := gc_sim S2.g S2.pre hn
      exact o φ3 _ _ (S2.cext (x.trans f) p3 k3) g3 (.lst (.inl (.inr ⟨od, Fz_frz upd_same⟩)) (dpAll_mono f _ _ h2))
    · rename_i ds el
      obtain ⟨od, vs, h1, h2⟩ := S.l i a _ ha el
      exact .inl (o φ'' H' _ c g (.lst (.inl (.inr ⟨od, Fz_frz h1⟩)) h2))
    · rename_i kvs el
      obtain ⟨vvs, h1, h2⟩ := S.l i a _ ha el
      refine .inl (o (φ' ++ [a]) H' _ ⟨x, S.pre.trans (Pre.app _ _), fun b hb => ?_, S.kp⟩ (simG_out S ha ⟨vvs, h1, lift_paired h2⟩) ⟨a, by rw [← S.g.len]; simp, rfl⟩)
      rcases List.mem_append.mp hb with hb | hb
      · exact S.new b hb
      · have : b = a := by simpa using hb
        subst this; exact .inr (S.fr b am)
    · rename_i kvs el
      obtain ⟨vvs, h1, h2⟩ := S.l i a _ ha el
      refine .inl (o (φ' ++ [a]) H' _ ⟨x, S.pre.trans (Pre.app _ _), fun b hb => ?_, S.kp⟩ (simG_out S ha ⟨vvs, h1, lift_paired h2⟩) ⟨a, by rw [← S.g.len]; simp, rfl⟩)
      rcases List.mem_append.mp hb with hb | hb
      · exact S.new b hb
      · have : b = a := by simpa using hb
        subst this; exact .inr (S.fr b am)
    · rename_i ds el
      obtain ⟨od, vs, h1, ⟨_, hf⟩, h2⟩ := S.l i a _ ha el
      exact .inl (o φ'' H' _ c g (.tup (.inl (.inr ⟨od, Fz_ktup h1 hf⟩)) h2))
    · exact o.elim
  | scr ns => exact o.elim
theorem outS_of {Q : VK} {E : XK} (hn : φ.length = n) : ∀ {o : Out Fl}, OutC K φ H Q E (fnEnd n o) →
    OutS K (fun c d _ H' => E c d H') H φ φ [] H { nx := fun _ H' => Q .non H', rt := fun v H' => Q v H' ∨ ∃ a vs, v = .ref a ∧ H' a = some (.lst vs) ∧ ∀ od, Q v (upd H' a (.frz od (.lst vs))) } o
  | .ok .nx s, h => fun φ' ψ' H' σ' x S => by
    obtain ⟨φ'', g, p, k, at_⟩ := gc_sim S.g S.pre hn
    exact h φ'' H' _ (S.cext x.f p k) g .non
  | .ok (.ret d) s, h => fun φ' ψ' H' σ' v x S r => retD_ok S x.f hn r h
  | .ok .bk _, h => h.elim
  | .ok .ct _, h => h.elim
  | .exc C fs s, h => fun φ' ψ' H' σ' dd vfs x S e r => by
    obtain ⟨φ'', g, p, k, at_⟩ := gc_sim S.g S.pre hn
    exact h φ'' H' dd vfs (S.cext x.f p k) g e r
  | .no, h => h.elim
  | .pick m k, h => fun i hi => outS_of hn (h i hi)
theorem paired_getV {α β : Type} {F : α → β → Prop} : ∀ {xs : List α} {ys : List β}, Paired F xs ys → ∀ {i : Nat} {x : α}, xs[i]? = some x → ∃ y, ys[i]? = some y ∧ F x y
  | _, _, .nil, _, _, e => by simp at e
  | _, _, .cons r _, 0, _, e => by
    simp at e; subst e
    exact ⟨_, rfl, r⟩
  | _, _, .cons _ rr, i + 1, _, e => by
    obtain ⟨y, h1, h2⟩ := paired_getV rr (i := i) (by simpa using e)
    exact ⟨y, by simpa using h1, h2⟩
theorem start_sim {N : List Str} {G : List GO} {ds : List D} {vs : List V} (g : SimG K φ H G) (r : RepA K H φ [] ds vs) : Sim K H φ φ [] H ⟨slots N.length ds, [], G⟩ (start N vs) where
  g := g
  ll := rfl
  nl := by simp
  gl := fun a _ z => by simp at z
  l := fun n a o h => by simp at h
  sl := by
    have e : ds.length = vs.length := r.length
    unfold slots L2.start
    simp [e]
  s := fun i d h => by
    have e : ds.length = vs.length := r.length
    have h' : (slots N.length ds)[i]? = some (some d) := h
    unfold slots at h'
    by_cases hi : i < ds.length
    · rw [List.getElem?_append_left (by simpa using hi), List.getElem?_map] at h'
      have h2 : ds[i]? = some d := by
        cases q : ds[i]? with
        | none => rw [q] at h'; cases h'
        | some z => rw [q] at h'; cases h'; rfl
      obtain ⟨v, h3, h4⟩ := paired_getV r h2
      refine ⟨v, ?_, h4⟩
      unfold L2.start
      rw [List.getElem?_append_left (by simp; omega), List.getElem?_map, h3]
      rfl
    · rw [List.getElem?_append_right (by simpa using hi), List.getElem?_replicate] at h'
      split at h' <;> cases h'
  pre := Pre.refl _
  fr := fun a h => by simp at h
  new := fun a h => .inl h
  kp := fun _ _ h _ => h
  old := fun a h => by
    obtain ⟨n, e⟩ := mem_get h
    obtain ⟨o, eo⟩ := get_of_len g.len.symm e
    obtain ⟨u, hu, _⟩ := (g.at_ n a o e eo).some
    exact ⟨u, hu⟩
end
/-- THE RULE: a def by its body's mirror -/
theorem fnD {P : Program} {w : World} {K : PySem.W.Frag} {mg : Str → Option Value} {base : Heap} {k : Nat} {x qual : Str} {params : Arguments} {body : List Stmt} {scope : Scope} {fa : Addr} {fd : FuncData} {N ps : List Str} {bd : FSt}
    (F : FunD K x qual params body scope [] [] fa fd) (S : FnScope N ps scope)
    (hb : ∀ (cdv : Value) (A : Around) (outer : List Env) (s : Shared) (H : Hp) (E : XK), Ctx (cxOf (L2.CX P w) P w K mg base N qual scope fa cdv A outer s H E) k → Takes (cxOf (L2.CX P w) P w K mg base N qual scope fa cdv A outer s H E) (fun c d _ H' => E c d H') →
      PassesOwn (model P w) (A.deeper (envOfC qual scope s.heap.objs.size fa cdv)) (envOfC qual scope s.heap.objs.size fa cdv) (cxOf (L2.CX P w) P w K mg base N qual scope fa cdv A outer s H E).xe →
      PSsD (cxOf (L2.CX P w) P w K mg base N qual scope fa cdv A outer s H E) (fun c d _ H' => E c d H') body bd) :
    FnG P w K mg base (k + 1) fa fd ps (spF K ps.length (fnRun N.length bd)) := by
  obtain ⟨oc, od, dV, kV, doc, pm, an, cdv, ct, osl, rfl, lk, hcd, _, _⟩ := F.ex
  refine fnG_of lk hcd S (fun vs H Q E h => h.1) fun A outer s H vs Q E hr hgd hsp => ?_
  obtain ⟨hl, φ, ds, G, g, r, o⟩ := hsp
  refine ⟨_, pss_frzR (hb cdv A outer s H E ⟨rfl, hgd, hr⟩ (takes_of rfl rfl rfl rfl) (passes_of (X := cxOf (L2.CX P w) P w K mg base N qual scope fa cdv A outer s H E) rfl)), ?_⟩
  exact ⟨H, φ, φ, [], _, start_sim g r, outS_of g.len o⟩
end DL

set_option Elab.async false
set_option linter.all false
set_option maxRecDepth 100000
set_option maxHeartbeats 2000000
namespace DL
open PySem PySem.Spec PyProof.Rows L2
/-! ### built-ins -/
def callB1 (g : PyData → Option PyData) (ds : List D) (s : ST) : Out D := match ds with
  | [x] => opt ((rd s x).bind g) s
  | _ => .no
def callB2 (g : PyData → PyData → Option PyData) (ds : List D) (s : ST) : Out D := match ds with
  | [x, y] => opt ((rd s x).bind fun p => (rd s y).bind fun q => g p q) s
  | _ => .no
def eB1 (g : PyData → Option PyData) (fa : FA) : FE := fun s => (fa s).bind (callB1 g)
def eB2 (g : PyData → PyData → Option PyData) (fa : FA) : FE := fun s => (fa s).bind (callB2 g)
def eIsa (T : String) (f : FE) : FE := fun s => (f s).bind fun x s1 => opt (((rd s1 x).bind (gIsa T)).map .bool) s1
section
variable {X : Cx} {W : WX} {a e o : Expr} {es : List Expr} {fa fs : FA} {fe fo : FE} {x : Str} {id T : String} {p p2 pos apos cpos : Pos} {g : PyData → Option PyData} {g2 : PyData → PyData → Option PyData}
theorem b1_read {K : PySem.W.Frag} {H0 H : Hp} {φ0 φ ψ : List Addr} {s : ST} {σ : L2.St} {ds : List D} {vs : List V} {Q : VK} (S : Sim K H0 φ0 φ ψ H s σ) (r : RepA K H φ ψ ds vs) (o : OutE K W H0 φ0 φ ψ H σ Q (callB1 g ds s)) : ∃ v p r, vs = [v] ∧ DpT K H v p ∧ g p = some r ∧ Res K H r Q := by
  unfold callB1 at o
  split at o
  · obtain ⟨w, e, k⟩ := opt_ok S o
    obtain ⟨p, ep, e⟩ := Option.bind_eq_some_iff.mp e
    cases r with
    | cons r1 r2 =>
      cases r2
      exact ⟨_, p, w, rfl, rd_ok S r1 ep, e, k⟩
  · exact o.elim
theorem b2_read {K : PySem.W.Frag} {H0 H : Hp} {φ0 φ ψ : List Addr} {s : ST} {σ : L2.St} {ds : List D} {vs : List V} {Q : VK} (S : Sim K H0 φ0 φ ψ H s σ) (r : RepA K H φ ψ ds vs) (o : OutE K W H0 φ0 φ ψ H σ Q (callB2 g2 ds s)) : ∃ v u p q r, vs = [v, u] ∧ DpT K H v p ∧ DpT K H u q ∧ g2 p q = some r ∧ Res K H r Q := by
  unfold callB2 at o
  split at o
  · obtain ⟨w, e, k⟩ := opt_ok S o
    obtain ⟨p, ep, e⟩ := Option.bind_eq_some_iff.mp e
    obtain ⟨q, eq, e⟩ := Option.bind_eq_some_iff.mp e
    cases r with
    | cons r1 r2 =>
      cases r2 with
      | cons r2 r3 =>
        cases r3
        exact ⟨_, _, p, q, w, rfl, rd_ok S r1 ep, rd_ok S r2 eq, e, k⟩
  · exact o.elim
theorem ped_b1 (hc : CalD X (.builtin id) g) (hg : Gl X x) (hm : X.mg x = none) (hv : bootBuiltins x = some (.builtin id)) (ha : PAD X W (e :: es) fs) (hn : x ≠ "__name__" := by decide) (hdb : (x == ("__debug__" : Str)) = false := by decide)
    (he : starEach (e :: es) X.env = (false, eval e X.env) :: starEach es X.env := by rfl) (hpl : (backTo pos (starEach es X.env)).any (·.1) = false := by rfl) : PED X W (.Call (.Name x p) (e :: es) [] pos) (eB1 g fs) :=
  PE.imp (pe_callB hc hg hm hv ha hn hdb he hpl) fun σ H Q ⟨H0, φ0, φ, ψ, s, S, o⟩ => ⟨H0, φ0, φ, ψ, s, S, OutE.bA o fun ds s1 φ1 ψ1 H1 vs e1 S1 r1 o1 => b1_read S1 r1 o1⟩
theorem ped_t1 (hc : CalD X (.type T) g) (hg : Gl X x) (hm : X.mg x = none) (hv : bootBuiltins x = some (.type T)) (ha : PAD X W (e :: es) fs) (hn : x ≠ "__name__" := by decide) (hdb : (x == ("__debug__" : Str)) = false := by decide)
    (he : starEach (e :: es) X.env = (false, eval e X.env) :: starEach es X.env := by rfl) (hpl : (backTo pos (starEach es X.env)).any (·.1) = false := by rfl) : PED X W (.Call (.Name x p) (e :: es) [] pos) (eB1 g fs) :=
  PE.imp (pe_callTy hc hg hm hv ha hn hdb he hpl) fun σ H Q ⟨H0, φ0, φ, ψ, s, S, o⟩ => ⟨H0, φ0, φ, ψ, s, S, OutE.bA o fun ds s1 φ1 ψ1 H1 vs e1 S1 r1 o1 => b1_read S1 r1 o1⟩
theorem ped_b2 (hc : CalD2 X (.builtin id) g2) (hg : Gl X x) (hm : X.mg x = none) (hv : bootBuiltins x = some (.builtin id)) (ha : PAD X W (e :: es) fs) (hn : x ≠ "__name__" := by decide) (hdb : (x == ("__debug__" : Str)) = false := by decide)
    (he : starEach (e :: es) X.env = (false, eval e X.env) :: starEach es X.env := by rfl) (hpl : (backTo pos (starEach es X.env)).any (·.1) = false := by rfl) : PED X W (.Call (.Name x p) (e :: es) [] pos) (eB2 g2 fs) :=
  PE.imp (pe_callB hc hg hm hv ha hn hdb he hpl) fun σ H Q ⟨H0, φ0, φ, ψ, s, S, o⟩ => ⟨H0, φ0, φ, ψ, s, S, OutE.bA o fun ds s1 φ1 ψ1 H1 vs e1 S1 r1 o1 => b2_read S1 r1 o1⟩
/-- isinstance(x, T) -/
theorem ped_isa {t : Str} (hg : Gl X "isinstance") (hm : X.mg "isinstance" = none) (hgt : Gl X t) (hmt : X.mg t = none) (hvt : bootBuiltins t = some (.type T)) (he : PED X W e fe) (hnt : t ≠ "__name__" := by decide) (hdt : (t == ("__debug__" : Str)) = false := by decide)
    (hs : starEach [e, .Name t p2] X.env = (false, eval e X.env) :: starEach [.Name t p2] X.env := by rfl) (hs2 : starEach [.Name t p2] X.env = (false, eval (.Name t p2) X.env) :: starEach [] X.env := by rfl) (hpl : (backTo pos (starEach [.Name t p2] X.env)).any (·.1) = false := by rfl) :
    PED X W (.Call (.Name "isinstance" p) [e, .Name t p2] [] pos) (eIsa T fe) :=
  PE.imp (pe_callB cald_isa hg hm boot_isinstance (pa_cons he (pa_cons (pe_bltn (v := .ty T) hgt hmt hvt rfl hnt hdt) pa_nil hs2) hs) (by decide) (by decide) hs hpl) fun σ H Q ⟨H0, φ0, φ, ψ, s, S, o⟩ => ⟨H0, φ0, φ, ψ, s, S, OutE.bE o fun y s1 φ1 ψ1 H1 v e1 S1 r1 o1 => by
    obtain ⟨w, w1, k⟩ := opt_ok S1 o1
    obtain ⟨b, w2, w3⟩ := Option.map_eq_some_iff.mp w1
    subst w3
    obtain ⟨q, eq, w4⟩ := Option.bind_eq_some_iff.mp w2
    exact ⟨v, q, b, rfl, rd_ok S1 r1 eq, w4, k⟩⟩
/-! ### list(range(..)) -/
def lstRg (lo hi : Int) (s : ST) : Out D := if inR lo = true then if inR hi = true then if (hi - lo).toNat ≤ 16777216 then .ok (.py (.list (rng lo (hi - lo).toNat))) s else .no else .no else .no
def eRg1 (f : FE) : FE := fun s => (f s).bind fun x s1 => match x with
  | .py (.int j) => lstRg 0 j s1
  | _ => .no
def eRg2 (f g : FE) : FE := fun s => (f s).bind fun x s1 => (g s1).bind fun y s2 => match x, y with
  | .py (.int i), .py (.int j) => lstRg i j s2
  | _, _ => .no
theorem rg_dp {K : PySem.W.Frag} {H : Hp} (a b : Int) : DpAll K H (rgV a b) (rng a (b - a).toNat) := by
  unfold rgV rng
  induction (List.range (b - a).toNat) with
  | nil => exact .nil
  | cons i l ih => exact .cons (.int _) ih
theorem rg_read {K : PySem.W.Frag} {H0 H : Hp} {φ0 φ ψ : List Addr} {s : ST} {σ : L2.St} {Q : VK} {i j : Int} (S : Sim K H0 φ0 φ ψ H s σ) (o : OutE K W H0 φ0 φ ψ H σ Q (lstRg i j s)) :
    RgOk i j ∧ ∀ q, H q = none → (Q (.ref q) (upd H q (.lst (rgV i j))) ∨ ∃ a vs, V.ref q = .ref a ∧ upd H q (.lst (rgV i j)) a = some (.lst vs) ∧ ∀ od, Q (.ref q) (upd (upd H q (.lst (rgV i j))) a (.frz od (.lst vs)))) := by
  unfold lstRg at o
  split at o
  · rename_i h1
    split at o
    · rename_i h2
      split at o
      · rename_i h3
        obtain ⟨a1, a2⟩ := inR_ok h1
        obtain ⟨a3, a4⟩ := inR_ok h2
        refine ⟨⟨a1, a2, a3, a4, h3⟩, fun q hq => .inr ⟨q, _, rfl, upd_same, fun od => ?_⟩⟩
        rw [upd_upd]
        have g : Same H (upd H q (.frz od (.lst (rgV i j)))) := grow_new hq
        exact o φ ψ _ _ (Ext.grow g) (S.grow g) (.lst (.inl (.inr ⟨od, Fz_frz upd_same⟩)) (rg_dp i j))
      · exact o.elim
    · exact o.elim
  · exact o.elim
theorem ped_rg1 (hc : X.calm = true) (hg : Gl X "list") (hm : X.mg "list" = none) (hg2 : Gl X "range") (hm2 : X.mg "range" = none) (ha : PED X W a fe) (na2 : starEach [a] X.env = (false, eval a X.env) :: starEach [] X.env := by rfl)
    (na : starEach [.Call (.Name "range" p2) [a] [] cpos] X.env = (false, eval (.Call (.Name "range" p2) [a] [] cpos) X.env) :: starEach [] X.env := by rfl) : PED X W (.Call (.Name "list" p) [.Call (.Name "range" p2) [a] [] cpos] [] pos) (eRg1 fe) :=
  PE.imp (pe_frz (pe_listRg hc hg hm (prg_1 hg2 hm2 ha na2) na)) fun σ H Q ⟨H0, φ0, φ, ψ, s, S, o⟩ => ⟨H0, φ0, φ, ψ, s, S, OutE.bE o fun x s1 φ1 ψ1 H1 v e1 S1 r1 o1 => by
    split at o1
    · rename_i j
      have r' : Dp [] (Fz H1) v (.int j) := r1
      cases r'
      exact ⟨j, rfl, rg_read S1 o1⟩
    · exact o1.elim⟩
theorem ped_rg2 {b : Expr} {fb : FE} (hc : X.calm = true) (hg : Gl X "list") (hm : X.mg "list" = none) (hg2 : Gl X "range") (hm2 : X.mg "range" = none) (ha : PED X W a fe) (hb : PED X W b fb) (na1 : starEach [a, b] X.env = (false, eval a X.env) :: starEach [b] X.env := by rfl) (na2 : starEach [b] X.env = (false, eval b X.env) :: starEach [] X.env := by rfl) (na3 : (backTo cpos (starEach [b] X.env)).any (·.1) = false := by rfl)
    (na : starEach [.Call (.Name "range" p2) [a, b] [] cpos] X.env = (false, eval (.Call (.Name "range" p2) [a, b] [] cpos) X.env) :: starEach [] X.env := by rfl) : PED X W (.Call (.Name "list" p) [.Call (.Name "range" p2) [a, b] [] cpos] [] pos) (eRg2 fe fb) :=
  PE.imp (pe_frz (pe_listRg hc hg hm (prg_2 hg2 hm2 ha hb na1 na2 na3) na)) fun σ H Q ⟨H0, φ0, φ, ψ, s, S, o⟩ => ⟨H0, φ0, φ, ψ, s, S, OutE.bE o fun x s1 φ1 ψ1 H1 v e1 S1 r1 o1 =>
    ⟨H0, φ0, φ1, ψ1, s1, S1, OutE.bE o1 fun y s2 φ2 ψ2 H2 u e2 S2 r2 o2 => by
      split at o2
      · rename_i i j
        have r' : Dp [] (Fz H2) v (.int i) := r1.ext e2
        have r'' : Dp [] (Fz H2) u (.int j) := r2
        cases r'; cases r''
        exact ⟨i, j, rfl, rfl, rg_read S2 o2⟩
      · exact o2.elim⟩⟩
/-! ### methods of lists -/
/-- the list at a name: where it stands -/
inductive At where
  | l (n : Nat)
  | g (n : Nat)
def lstAt (x : D) (s : ST) : Option (At × List PyData) := match x with
  | .loc n => match s.L[n]? with
    | some (.lst ds) => some (.l n, ds)
    | _ => none
  | .obj n => match s.G[n]? with
    | some (.lst ds) => some (.g n, ds)
    | _ => none
  | _ => none
def putL (a : At) (ds : List PyData) (s : ST) : ST := match a with
  | .l n => { s with L := s.L.set n (.lst ds) }
  | .g n => { s with G := s.G.set n (.lst ds) }
theorem lstAt_ok {K : PySem.W.Frag} {H0 H : Hp} {φ0 φ ψ : List Addr} {s : ST} {σ : L2.St} {x : D} {v : V} {p : At × List PyData} (S : Sim K H0 φ0 φ ψ H s σ) (r : RepD K H φ ψ x v) (e : lstAt x s = some p) :
    ∃ a vs, v = .ref a ∧ H a = some (.lst vs) ∧ DpAll [] (Fz H) vs p.2 ∧ ∀ us es, (∀ H', FS H H' → DpAll [] (Fz H') us es) → Sim K H0 φ0 φ ψ (upd H a (.lst us)) (putL p.1 es s) σ ∧ Ext φ ψ H φ ψ (upd H a (.lst us)) := by
  unfold lstAt at e
  split at e
  · split at e
    · rename_i n _ ds el
      cases e
      obtain ⟨a, ha, rfl⟩ := r
      obtain ⟨vs, h1, h2⟩ := S.l n a _ ha el
      have hf : Fz H a = none := Fz_lst h1
      exact ⟨a, vs, rfl, h1, h2, fun us es k => ⟨S.setL ha hf fun H' e => by subst e; exact ⟨us, upd_same, k _ (FS.upd hf)⟩, Ext.setL S hf⟩⟩
    · cases e
  · split at e
    · rename_i n _ ds el
      cases e
      obtain ⟨a, ha, rfl⟩ := r
      obtain ⟨vs, h1, h2⟩ := S.g.at_ n a _ ha el
      have hf : Fz H a = none := Fz_lst h1
      exact ⟨a, vs, rfl, h1, h2, fun us es k => ⟨S.setG ha fun H' e => by subst e; exact ⟨us, upd_same, k _ (FS.upd hf)⟩, ⟨FS.upd hf, Pre.refl _, Pre.refl _⟩⟩⟩
    · cases e
  · cases e
/-- a receiver, at the look at its method -/
def isLst (x : D) (s : ST) : Bool := match rd s x with
  | some (.list _) => true
  | _ => false
theorem tyL {K : PySem.W.Frag} {H0 H : Hp} {φ0 φ ψ : List Addr} {s : ST} {σ : L2.St} {x : D} {v : V} (S : Sim K H0 φ0 φ ψ H s σ) (r : RepD K H φ ψ x v) (e : isLst x s = true) : tyV K "list" v H := by
  unfold isLst at e
  split at e
  · rename_i ds er
    obtain ⟨a, vs, rfl, h1, _⟩ := rd_ok S r er
    exact .inl ⟨rfl, vs, h1⟩
  · cases e
def eMeth (f : FE) (fa : FA) (m : D → List D → ST → Out D) : FE := fun s => (f s).bind fun x s1 => if isLst x s1 = true then (fa s1).bind fun ds s2 => m x ds s2 else .no
def mApp (x : D) (ds : List D) (s : ST) : Out D := match lstAt x s, ds with
  | some (a, xs), [.py p] => if xs.length < sizeLine then .ok (.py .none) (putL a (xs ++ [p]) s) else .no
  | _, _ => .no
def mExt (x : D) (ds : List D) (s : ST) : Out D := match lstAt x s, ds with
  | some (a, xs), [.py (.list ys)] => if xs.length + ys.length ≤ sizeLine then .ok (.py .none) (putL a (xs ++ ys) s) else .no
  | _, _ => .no
def mPop (x : D) (ds : List D) (s : ST) : Out D := match lstAt x s, ds with
  | some (a, xs), [] => match xs[xs.length - 1]? with
    | some y => .ok (.py y) (putL a xs.dropLast s)
    | none => .no
  | _, _ => .no
theorem dpAll_dropLast {K : PySem.W.Frag} {H : Hp} {ds : List PyData} {vs : List V} (h : DpAll K H vs ds) : DpAll K H vs.dropLast ds.dropLast := by
  rw [List.dropLast_eq_take, List.dropLast_eq_take, dpAll_len h]
  exact dpAll_take _ h
theorem meth_read {K : PySem.W.Frag} {H0 H : Hp} {φ0 φ ψ : List Addr} {s : ST} {σ : L2.St} {Q : VK} {m : D → List D → ST → Out D} {r : V → List V → Hp → VK → Prop} (S : Sim K H0 φ0 φ ψ H s σ) (o : OutE K W H0 φ0 φ ψ H σ Q (eMeth fo fs m s))
    (k : ∀ x ds v vs s2 φ2 ψ2 H2, Sim K H0 φ0 φ2 ψ2 H2 s2 σ → RepD K H2 φ2 ψ2 x v → RepA K H2 φ2 ψ2 ds vs → OutE K W H0 φ0 φ2 ψ2 H2 σ Q (m x ds s2) → r v vs H2 Q) : tBM K "list" r (tE K W fo) (tA K W fs) σ H Q :=
  ⟨H0, φ0, φ, ψ, s, S, OutE.bE o fun x s1 φ1 ψ1 H1 v e1 S1 r1 o1 => by
    split at o1
    · rename_i hl
      exact ⟨tyL S1 r1 hl, H0, φ0, φ1, ψ1, s1, S1, OutE.bA o1 fun ds s2 φ2 ψ2 H2 vs e2 S2 r2 o2 => k x ds v vs s2 φ2 ψ2 H2 S2 (r1.ext e2) r2 o2⟩
    · exact o1.elim⟩
theorem mApp_ok {K : PySem.W.Frag} {H0 H : Hp} {φ0 φ ψ : List Addr} {s : ST} {σ : L2.St} {Q : VK} {x : D} {ds : List D} {v : V} {vs : List V} (S : Sim K H0 φ0 φ ψ H s σ) (r : RepD K H φ ψ x v) (ra : RepA K H φ ψ ds vs) (o : OutE K W H0 φ0 φ ψ H σ Q (mApp x ds s)) : rAppend v vs H Q := by
  unfold mApp at o
  split at o
  · rename_i a xs q el
    split at o
    · rename_i hz
      obtain ⟨ad, us, rfl, h1, h2, k⟩ := lstAt_ok S r el
      cases ra with
      | @cons _ w _ _ r1 r2 =>
        cases r2
        have r1' : Dp [] (Fz H) w q := r1
        obtain ⟨S', x'⟩ := k (us ++ [w]) (xs ++ [q]) fun H' f => dpAll_append (dpAll_mono f _ _ h2) (.cons (dp_mono f _ _ r1') .nil)
        exact ⟨ad, us, w, rfl, rfl, h1, by rw [dpAll_len h2]; exact hz, o φ ψ _ _ x' S' .non⟩
    · exact o.elim
  · exact o.elim
/-- extend by any list -/
def rExt (K : PySem.W.Frag) : V → List V → Hp → VK → Prop := fun x vs H Q => ∃ l b xs zs, x = .ref l ∧ vs = [.ref b] ∧ H l = some (.lst xs) ∧ SqL K H b zs ∧ xs.length + zs.length ≤ sizeLine ∧ Q .non (upd H l (.lst (xs ++ zs)))
theorem ext_gen (l : Addr) (items : Array Value) (n : Nat) (b : Addr) (items2 : Array Value) (n2 : Nat) (dd2 : Option Addr) (sl2 : Array (Option Value)) (hc0 : ¬(!items.isEmpty && Builtin.List.listTooLong (items.size + items2.size)) = true) (hc1 : items.size ≤ sizeLine) (hs2 : items.size + items2.size ≤ sizeLine + 1) :
    Meets (Builtin.«list.extend» ⟨[.ref l, .ref b], []⟩) (fun _ R s => s.heap.get? l = some { cls := .type "list", dict := none, data := .seq items n, slots := #[] } ∧ s.heap.get? b = some { cls := .type "list", dict := dd2, data := .seq items2 n2, slots := sl2 } ∧
      R (.ok (.ret Value.none)) { s with heap := s.heap.update l (Obj.mapSeq fun x => x ++ items2), toks := s.toks }) :=
  .of_wp fun prog w A R s h => by
    obtain ⟨hp, g, d, tk, os⟩ := s; obtain ⟨hl, hb, h⟩ := h; have f1 := AutoSeq1.idx_int; have f2 := AutoSeq1.sub_tuple_tuple; have f3 := AutoSeq1.sub_list_list; have f4 := AutoSeq1.sub_tuple_list; have f5 := AutoSeq1.sub_list_tuple;
    have hz' : (items ++ items2).size ≤ sizeLine + 1 := by rw [Array.size_append]; exact hs2
    wp_walk using (wpAny_updateSeq hl rfl (hz := hc1) (_hz' := hz')), AutoSeq1.wpAny_loadPart' hl, AutoSeq1.wpAny_loadPart' hb; exact ⟨_, rfl, h⟩
theorem mt_ext : MtM X "list.extend" (rExt X.K) := by
  intro pins s σ H x vs v us Q I rx rv h
  obtain ⟨l, b, xs, zs, rfl, rfl, hH, hB, hz, q⟩ := h
  cases rx
  obtain ⟨u, rfl, ru⟩ := rv.one
  cases ru
  obtain ⟨z, its, n, r, hl, e⟩ := I.lstM hH
  obtain ⟨its2, dd2, n2, sl2, r2, z2, e2⟩ := list_obj I hB
  have hl2 := r2.length
  have hsz : its.toArray.size + its2.toArray.size ≤ sizeLine := by rw [List.size_toArray, List.size_toArray]; omega
  have hlong : ¬ (!its.toArray.isEmpty && Builtin.List.listTooLong (its.toArray.size + its2.toArray.size)) = true := by
    rw [notLongL hsz, Bool.and_false]
    exact Bool.false_ne_true
  refine call_meets F.slot_list_extend ⟨_, e, rfl⟩ F.entry_list_extend (F.args_list_extend_2 _ _)
    (ext_gen l its.toArray n b its2.toArray n2 dd2 sl2 hlong (by rw [List.size_toArray]; omega) (by omega)) ⟨e, e2, ?_⟩
  refine ⟨.non, _, I.lset (its' := its ++ its2) hH e (by simp) (r.append r2) ?_, rfl, q⟩
  rw [List.length_append]
  omega
theorem mExt_ok {K : PySem.W.Frag} {H0 H : Hp} {φ0 φ ψ : List Addr} {s : ST} {σ : L2.St} {Q : VK} {x : D} {ds : List D} {v : V} {vs : List V} (S : Sim K H0 φ0 φ ψ H s σ) (r : RepD K H φ ψ x v) (ra : RepA K H φ ψ ds vs) (o : OutE K W H0 φ0 φ ψ H σ Q (mExt x ds s)) : rExt K v vs H Q := by
  unfold mExt at o
  split at o
  · rename_i a xs ys el
    split at o
    · rename_i hz
      obtain ⟨ad, us, rfl, h1, h2, k⟩ := lstAt_ok S r el
      cases ra with
      | @cons _ w _ _ r1 r2 =>
        cases r2
        have r1' : Dp [] (Fz H) w (.list ys) := r1
        cases r1' with
        | lst hs ha =>
          obtain ⟨S', x'⟩ := k (us ++ _) (xs ++ ys) fun H' f => dpAll_append (dpAll_mono f _ _ h2) (dpAll_mono f _ _ ha)
          exact ⟨ad, _, us, _, rfl, rfl, h1, sqL_up hs, by rw [dpAll_len h2, dpAll_len ha]; exact hz, o φ ψ _ _ x' S' .non⟩
    · exact o.elim
  · exact o.elim
theorem mPop_ok {K : PySem.W.Frag} {H0 H : Hp} {φ0 φ ψ : List Addr} {s : ST} {σ : L2.St} {Q : VK} {x : D} {v : V} (S : Sim K H0 φ0 φ ψ H s σ) (r : RepD K H φ ψ x v) (o : OutE K W H0 φ0 φ ψ H σ Q (mPop x [] s)) : rPop v [] H Q := by
  unfold mPop at o
  split at o
  · rename_i _ _ a xs el _
    split at o
    · rename_i y ey
      obtain ⟨ad, us, rfl, h1, h2, k⟩ := lstAt_ok S r el
      obtain ⟨w, e1, e2⟩ := dpAll_get h2 ey
      obtain ⟨S', x'⟩ := k us.dropLast xs.dropLast fun H' f => dpAll_dropLast (dpAll_mono f _ _ h2)
      exact ⟨ad, us, w, rfl, rfl, h1, by rw [dpAll_len h2]; exact e1, o φ ψ _ _ x' S' (dp_mono x'.f _ _ e2)⟩
    · exact o.elim
  · exact o.elim
theorem ped_append (ho : PED X W o fo) (ha : PAD X W [e] fs) (hbase : attributeBase o "append" X.env (eval o X.env) = eval o X.env := by rfl)
    (hfew : ((backTo cpos (starEach [e] X.env)).all (fun x => !x.1) && (backToKw cpos (keywordEach [] X.env)).all (fun x => x.1.isSome)
      && decide (([e] : List Expr).length + ([] : List Keyword).length + (if ([] : List Keyword).isEmpty then 0 else 1) < 30)) = true := by rfl)
    (hline : (apos.endLine == cpos.line) = true := by rfl) (hs : starEach [e] X.env = (false, eval e X.env) :: starEach [] X.env := by rfl) (hplain : (backTo cpos (starEach [] X.env)).any (·.1) = false := by rfl) :
    PED X W (.Call (.Attribute o "append" apos) [e] [] cpos) (eMeth fo fs mApp) :=
  PE.imp (pe_bm PySem.F.plainAttrs_list PySem.F.slot_list_append PySem.F.type_list_append mt_append ho ha hbase hfew hline hs hplain) fun σ H Q ⟨H0, φ0, φ, ψ, s, S, o⟩ => meth_read S o fun x ds v vs s2 φ2 ψ2 H2 S2 r1 r2 o2 => mApp_ok S2 r1 r2 o2
theorem ped_extend (ho : PED X W o fo) (ha : PAD X W [e] fs) (hbase : attributeBase o "extend" X.env (eval o X.env) = eval o X.env := by rfl)
    (hfew : ((backTo cpos (starEach [e] X.env)).all (fun x => !x.1) && (backToKw cpos (keywordEach [] X.env)).all (fun x => x.1.isSome)
      && decide (([e] : List Expr).length + ([] : List Keyword).length + (if ([] : List Keyword).isEmpty then 0 else 1) < 30)) = true := by rfl)
    (hline : (apos.endLine == cpos.line) = true := by rfl) (hs : starEach [e] X.env = (false, eval e X.env) :: starEach [] X.env := by rfl) (hplain : (backTo cpos (starEach [] X.env)).any (·.1) = false := by rfl) :
    PED X W (.Call (.Attribute o "extend" apos) [e] [] cpos) (eMeth fo fs mExt) :=
  PE.imp (pe_bm PySem.F.plainAttrs_list PySem.F.slot_list_extend PySem.F.type_list_extend mt_ext ho ha hbase hfew hline hs hplain) fun σ H Q ⟨H0, φ0, φ, ψ, s, S, o⟩ => meth_read S o fun x ds v vs s2 φ2 ψ2 H2 S2 r1 r2 o2 => mExt_ok S2 r1 r2 o2
def ePop (f : FE) : FE := fun s => (f s).bind fun x s1 => if isLst x s1 = true then mPop x [] s1 else .no
theorem ped_pop (ho : PED X W o fo) (hbase : attributeBase o "pop" X.env (eval o X.env) = eval o X.env := by rfl) (hline : (apos.endLine == cpos.line) = true := by rfl) : PED X W (.Call (.Attribute o "pop" apos) [] [] cpos) (ePop fo) :=
  PE.imp (pe_bm0 PySem.F.plainAttrs_list PySem.F.slot_list_pop PySem.F.type_list_pop mt_pop ho hbase hline) fun σ H Q ⟨H0, φ0, φ, ψ, s, S, o⟩ => ⟨H0, φ0, φ, ψ, s, S, OutE.bE o fun x s1 φ1 ψ1 H1 v e1 S1 r1 o1 => by
    split at o1
    · rename_i hl
      exact ⟨tyL S1 r1 hl, mPop_ok S1 r1 o1⟩
    · exact o1.elim⟩
end
end DL

set_option Elab.async false
set_option linter.all false
set_option maxRecDepth 100000
set_option maxHeartbeats 2000000
namespace DL
open PySem PySem.Spec PyProof.Rows L2
/-! ### tables -/
section
variable {κ α : Type} [DecidableEq κ]
def getD (kvs : List (κ × α)) (k : κ) : Option α := match kvs with
  | [] => none
  | (k', v) :: r => if k' = k then some v else getD r k
def hasK (kvs : List (κ × α)) (k : κ) : Bool := (getD kvs k).isSome
def replD (kvs : List (κ × α)) (k : κ) (v : α) : List (κ × α) := match kvs with
  | [] => []
  | (k', w) :: r => (k', if k' = k then v else w) :: replD r k v
def putD (kvs : List (κ × α)) (k : κ) (v : α) : List (κ × α) := if hasK kvs k = true then replD kvs k v else kvs ++ [(k, v)]
end
section
variable {κ α : Type} [DecidableEq κ] {R : α → V → Prop}
theorem getD_rel {k : κ} : ∀ {kvs : List (κ × α)} {vvs : List (κ × V)}, Paired (fun (p : κ × α) (q : κ × V) => p.1 = q.1 ∧ R p.2 q.2) kvs vvs → (getD kvs k = none ∧ valV vvs k = none) ∨ ∃ d v, getD kvs k = some d ∧ valV vvs k = some v ∧ R d v
  | _, _, .nil => .inl ⟨rfl, rfl⟩
  | (k1, d) :: kvs, (k2, v) :: vvs, .cons ⟨e, r⟩ rr => by
    have e' : k1 = k2 := e
    subst e'
    unfold getD
    by_cases h : k1 = k
    · rw [if_pos h, valV_pos (p := (k1, v)) h]
      exact .inr ⟨d, v, rfl, rfl, r⟩
    · rw [if_neg h, valV_neg (p := (k1, v)) h]
      exact getD_rel rr
theorem any_val {kvs : List (κ × V)} {k : κ} : (kvs.any fun kv => decide (kv.1 = k)) = (valV kvs k).isSome := valV_any k kvs
theorem replD_rel {k : κ} {d : α} {v : V} (r : R d v) : ∀ {kvs : List (κ × α)} {vvs : List (κ × V)}, Paired (fun (p : κ × α) (q : κ × V) => p.1 = q.1 ∧ R p.2 q.2) kvs vvs →
    Paired (fun (p : κ × α) (q : κ × V) => p.1 = q.1 ∧ R p.2 q.2) (replD kvs k d) (vvs.map fun kv => if kv.1 = k then (kv.1, v) else kv)
  | _, _, .nil => .nil
  | (k1, w) :: kvs, (k2, u) :: vvs, .cons ⟨e, r1⟩ rr => by
    have e' : k1 = k2 := e
    subst e'
    show Paired _ ((k1, if k1 = k then d else w) :: replD kvs k d) ((if k1 = k then (k1, v) else (k1, u)) :: _)
    by_cases h : k1 = k
    · rw [if_pos h, if_pos h]
      exact .cons ⟨rfl, r⟩ (replD_rel r rr)
    · rw [if_neg h, if_neg h]
      exact .cons ⟨rfl, r1⟩ (replD_rel r rr)
theorem paired_app {α β : Type} {F : α → β → Prop} : ∀ {xs : List α} {ys : List β} {zs : List α} {ws : List β}, Paired F xs ys → Paired F zs ws → Paired F (xs ++ zs) (ys ++ ws)
  | _, _, _, _, .nil, h => h
  | _, _, _, _, .cons r rr, h => .cons r (paired_app rr h)
theorem putD_rel {k : κ} {d : α} {v : V} (r : R d v) {kvs : List (κ × α)} {vvs : List (κ × V)} (h : Paired (fun (p : κ × α) (q : κ × V) => p.1 = q.1 ∧ R p.2 q.2) kvs vvs) :
    Paired (fun (p : κ × α) (q : κ × V) => p.1 = q.1 ∧ R p.2 q.2) (putD kvs k d) (putK vvs k v) := by
  unfold putD putK hasK
  rw [any_val]
  rcases getD_rel (k := k) h with ⟨e1, e2⟩ | ⟨d', v', e1, e2, _⟩
  · rw [e1, e2]
    simp only [Option.isSome_none, Bool.false_eq_true, if_false]
    exact paired_app h (.cons ⟨rfl, r⟩ .nil)
  · rw [e1, e2]
    simp only [Option.isSome_some, if_true]
    exact replD_rel r h
end
/-! ### keys -/
def keyOf : PyData → Option Key
  | .int i => some (.inl i)
  | .str x => some (.inr x)
  | _ => none
def keysOf : List PyData → Option (List Key)
  | [] => some []
  | p :: ps => (keyOf p).bind fun k => (keysOf ps).map (k :: ·)
theorem keyOf_ok {K : PySem.W.Frag} {H : Hp} {v : V} {p : PyData} {k : Key} (h : Dp K H v p) (e : keyOf p = some k) : v = kV k := by
  cases h <;> cases e <;> rfl
theorem keysOf_ok {K : PySem.W.Frag} {H : Hp} : ∀ {ps : List PyData} {vs : List V} {ks : List Key}, DpAll K H vs ps → keysOf ps = some ks → vs = ks.map kV
  | [], _, _, h, e => by cases h; cases e; rfl
  | p :: ps, _, _, h, e => by
    cases h with
    | cons h1 h2 =>
      obtain ⟨k, e1, e⟩ := Option.bind_eq_some_iff.mp e
      obtain ⟨ks, e2, e3⟩ := Option.map_eq_some_iff.mp e
      subst e3
      rw [keyOf_ok h1 e1, keysOf_ok h2 e2]
      rfl
/-- a dict, where it stands -/
inductive DV where
  | k (kvs : List (Key × D))
  | t (kvs : List (List Key × D))
def dictAt (x : D) (s : ST) : Option (At × DV) := match x with
  | .loc n => match s.L[n]? with
    | some (.dK kvs) => some (.l n, .k (lift kvs))
    | some (.dT kvs) => some (.l n, .t (lift kvs))
    | _ => none
  | .obj n => match s.G[n]? with
    | some (.dK kvs) => some (.g n, .k kvs)
    | some (.dT kvs) => some (.g n, .t kvs)
    | _ => none
  | _ => none
/-- what the dict holds at a key -/
def lookT (kvs : List (List Key × D)) : PyData → Option (Option D)
  | .tuple ps => (keysOf ps).map fun k => getD kvs k
  | _ => none
def look : DV → PyData → Option (Option D)
  | .k kvs, p => (keyOf p).map fun k => getD kvs k
  | .t kvs, p => lookT kvs p
def LookR (K : PySem.W.Frag) (H : Hp) (φ : List Addr) : Option D → Option V → Prop
  | none, ov => ov = none
  | some d, ov => ∃ w, ov = some w ∧ RepD K H φ [] d w
section
variable {K : PySem.W.Frag} {W : WX} {H0 H : Hp} {φ0 φ ψ : List Addr} {s : ST} {σ : L2.St} {x : D} {v u : V} {Q : VK}
def RepV (K : PySem.W.Frag) (H : Hp) (φ : List Addr) (a : Addr) : DV → Prop
  | .k kvs => ∃ vvs, H a = some (.dK vvs) ∧ Paired (fun (p : Key × D) (q : Key × V) => p.1 = q.1 ∧ RepD K H φ [] p.2 q.2) kvs vvs
  | .t kvs => ∃ vvs, H a = some (.dT vvs) ∧ Paired (fun (p : List Key × D) (q : List Key × V) => p.1 = q.1 ∧ RepD K H φ [] p.2 q.2) kvs vvs
theorem dictAt_ok {w : At × DV} (S : Sim K H0 φ0 φ ψ H s σ) (r : RepD K H φ ψ x v) (e : dictAt x s = some w) : ∃ a, v = .ref a ∧ RepV K H φ a w.2 := by
  unfold dictAt at e
  split at e
  · obtain ⟨a, ha, rfl⟩ := r
    split at e
    · rename_i n _ kvs el
      cases e
      obtain ⟨vvs, h1, h2⟩ := S.l n a _ ha el
      exact ⟨a, rfl, vvs, h1, lift_paired h2⟩
    · rename_i n _ kvs el
      cases e
      obtain ⟨vvs, h1, h2⟩ := S.l n a _ ha el
      exact ⟨a, rfl, vvs, h1, lift_paired h2⟩
    · cases e
  · obtain ⟨a, ha, rfl⟩ := r
    split at e
    · rename_i n _ kvs el
      cases e
      exact ⟨a, rfl, S.g.at_ n a _ ha el⟩
    · rename_i n _ kvs el
      cases e
      exact ⟨a, rfl, S.g.at_ n a _ ha el⟩
    · cases e
  · cases e
/-- a look into it -/
theorem look_ok {a : Addr} {d : DV} {p : PyData} {o : Option D} (r : RepV K H φ a d) (hp : DpT K H u p) (e : look d p = some o) : ∃ ov, DGet H a u ov ∧ LookR K H φ o ov := by
  cases d with
  | k kvs =>
    obtain ⟨vvs, h1, h2⟩ := r
    obtain ⟨k, e1, e2⟩ := Option.map_eq_some_iff.mp e
    have eu : u = kV k := keyOf_ok hp.dp e1
    subst eu e2
    refine ⟨valV vvs k, DGet.k h1, ?_⟩
    rcases getD_rel (k := k) h2 with ⟨g1, g2⟩ | ⟨d', w, g1, g2, g3⟩
    · rw [g1]; exact g2
    · rw [g1]; exact ⟨w, g2, g3⟩
  | t kvs =>
    obtain ⟨vvs, h1, h2⟩ := r
    cases p with
    | tuple ps =>
      obtain ⟨k, e1, e2⟩ := Option.map_eq_some_iff.mp e
      subst e2
      obtain ⟨b, vs, rfl, hb, da⟩ := hp.tup
      have ev := keysOf_ok da e1
      subst ev
      refine ⟨valV vvs k, DGet.t h1 (sqT_tup hb), ?_⟩
      rcases getD_rel (k := k) h2 with ⟨g1, g2⟩ | ⟨d', w, g1, g2, g3⟩
      · rw [g1]; exact g2
      · rw [g1]; exact ⟨w, g2, g3⟩
    | _ => cases e
/-- .. and a write -/
def setAt (x : D) (p q : PyData) (s : ST) : Option ST := match x with
  | .loc n => match s.L[n]? with
    | some (.dK kvs) => (keyOf p).bind fun k => if kvs.length < sizeLine then some { s with L := s.L.set n (.dK (putD kvs k q)) } else none
    | some (.dT kvs) => match p with
      | .tuple ps => (keysOf ps).bind fun k => if kvs.length < sizeLine then some { s with L := s.L.set n (.dT (putD kvs k q)) } else none
      | _ => none
    | _ => none
  | .obj n => match s.G[n]? with
    | some (.dK kvs) => (keyOf p).bind fun k => if kvs.length < sizeLine then some { s with G := s.G.set n (.dK (putD kvs k (.py q))) } else none
    | some (.dT kvs) => match p with
      | .tuple ps => (keysOf ps).bind fun k => if kvs.length < sizeLine then some { s with G := s.G.set n (.dT (putD kvs k (.py q))) } else none
      | _ => none
    | _ => none
  | _ => none
theorem setAt_ok {p q : PyData} {w : V} {s' : ST} (S : Sim K H0 φ0 φ ψ H s σ) (r : RepD K H φ ψ x v) (hp : DpT K H u p) (hq : Dp [] (Fz H) w q) (e : setAt x p q s = some s') : ∃ a H', v = .ref a ∧ DPut H a u w H' ∧ Sim K H0 φ0 φ ψ H' s' σ ∧ Ext φ ψ H φ ψ H' := by
  unfold setAt at e
  split at e
  · rename_i n
    obtain ⟨a, ha, rfl⟩ := r
    split at e
    · rename_i kvs el
      obtain ⟨k, e1, e⟩ := Option.bind_eq_some_iff.mp e
      split at e
      · rename_i hz
        cases e
        have eu : u = kV k := keyOf_ok hp.dp e1
        subst eu
        obtain ⟨vvs, h1, h2⟩ := S.l n a _ ha el
        have hf : Fz H a = none := Fz_dK h1
        have f : ∀ z, FS H (upd H a z) := fun z => FS.upd hf
        refine ⟨a, _, rfl, DPut.k h1 (by rw [← h2.length]; exact hz), S.setL ha hf (o := .dK (putD kvs k q)) fun H' e => by subst e; exact ⟨_, upd_same, putD_rel (R := fun d v => Dp [] (Fz (upd H a _)) v d) (dp_mono (f _) _ _ hq) (Paired.mapP h2 fun _ _ z => ⟨z.1, dp_mono (f _) _ _ z.2⟩)⟩, Ext.setL S hf⟩
      · cases e
    · rename_i kvs el
      split at e
      · rename_i ps
        obtain ⟨k, e1, e⟩ := Option.bind_eq_some_iff.mp e
        split at e
        · rename_i hz
          cases e
          obtain ⟨b, vs, rfl, hb, da⟩ := hp.tup
          have ev := keysOf_ok da e1
          subst ev
          obtain ⟨vvs, h1, h2⟩ := S.l n a _ ha el
          have hf : Fz H a = none := Fz_dT h1
          have f : ∀ z, FS H (upd H a z) := fun z => FS.upd hf
          refine ⟨a, _, rfl, DPut.t h1 (sqT_tup hb) (by rw [← h2.length]; exact hz), S.setL ha hf (o := .dT (putD kvs k q)) fun H' e => by subst e; exact ⟨_, upd_same, putD_rel (R := fun d v => Dp [] (Fz (upd H a _)) v d) (dp_mono (f _) _ _ hq) (Paired.mapP h2 fun _ _ z => ⟨z.1, dp_mono (f _) _ _ z.2⟩)⟩, Ext.setL S hf⟩
        · cases e
      · cases e
    · cases e
  · rename_i n
    obtain ⟨a, ha, rfl⟩ := r
    split at e
    · rename_i kvs el
      obtain ⟨k, e1, e⟩ := Option.bind_eq_some_iff.mp e
      split at e
      · rename_i hz
        cases e
        have eu : u = kV k := keyOf_ok hp.dp e1
        subst eu
        obtain ⟨vvs, h1, h2⟩ := S.g.at_ n a _ ha el
        have hf : Fz H a = none := Fz_dK h1
        have f : ∀ z, FS H (upd H a z) := fun z => FS.upd hf
        refine ⟨a, _, rfl, DPut.k h1 (by rw [← h2.length]; exact hz), S.setG ha (o := .dK (putD kvs k (.py q))) fun H' e => by subst e; exact ⟨_, upd_same, putD_rel (R := fun d v => RepD K (upd H a _) φ [] d v) (show RepD K (upd H a _) φ [] (.py q) w from dp_mono (f _) _ _ hq) (Paired.mapP h2 fun _ _ z => ⟨z.1, z.2.mono (f _) (Pre.refl _) (Pre.refl _)⟩)⟩, ⟨f _, Pre.refl _, Pre.refl _⟩⟩
      · cases e
    · rename_i kvs el
      split at e
      · rename_i ps
        obtain ⟨k, e1, e⟩ := Option.bind_eq_some_iff.mp e
        split at e
        · rename_i hz
          cases e
          obtain ⟨b, vs, rfl, hb, da⟩ := hp.tup
          have ev := keysOf_ok da e1
          subst ev
          obtain ⟨vvs, h1, h2⟩ := S.g.at_ n a _ ha el
          have hf : Fz H a = none := Fz_dT h1
          have f : ∀ z, FS H (upd H a z) := fun z => FS.upd hf
          refine ⟨a, _, rfl, DPut.t h1 (sqT_tup hb) (by rw [← h2.length]; exact hz), S.setG ha (o := .dT (putD kvs k (.py q))) fun H' e => by subst e; exact ⟨_, upd_same, putD_rel (R := fun d v => RepD K (upd H a _) φ [] d v) (show RepD K (upd H a _) φ [] (.py q) w from dp_mono (f _) _ _ hq) (Paired.mapP h2 fun _ _ z => ⟨z.1, z.2.mono (f _) (Pre.refl _) (Pre.refl _)⟩)⟩, ⟨f _, Pre.refl _, Pre.refl _⟩⟩
        · cases e
      · cases e
    · cases e
  · cases e
end
end DL

set_option Elab.async false
set_option linter.all false
set_option maxRecDepth 100000
set_option maxHeartbeats 2000000
namespace DL
open PySem PySem.Spec PyProof.Rows L2
/-! ### in, not in; x[i]: of sequences and dicts -/
def rInDict (neg : Bool) : R2 := fun x y H Q => ∃ a o, y = .ref a ∧ DGet H a x o ∧ Q (.bl (if neg then !o.isSome else o.isSome)) H
section
variable {X : Cx}
theorem op_in_dict (hu : X.A.units + 1 < cLine) : OpR X (compareOp .In) (rInDict false) := by
  intro pins s σ H x y v u Q I rx ry h
  obtain ⟨a, o, rfl, g, q⟩ := h
  obtain rfl : u = Value.ref a := ry
  exact d_in hu I g rx fun s3 I3 => ⟨.bl o.isSome, H, I3, rfl, q⟩
theorem op_notIn_dict (hu : X.A.units + 1 < cLine) : OpR X (compareOp .NotIn) (rInDict true) := by
  intro pins s σ H x y v u Q I rx ry h
  obtain ⟨a, o, rfl, g, q⟩ := h
  obtain rfl : u = Value.ref a := ry
  exact d_notIn hu I g rx fun s3 I3 => ⟨.bl (!o.isSome), H, I3, rfl, q⟩
theorem ix_dict (hu : X.A.units + 1 < cLine) : IxR X (fun x y H Q => ∃ a v, x = .ref a ∧ DGet H a y (some v) ∧ Q v H) := by
  intro value slice pins s σ H x y v u Q I rx ry h hs
  obtain ⟨a, w, rfl, g, q⟩ := h
  obtain rfl : v = Value.ref a := rx
  have hT := dict_typeIs I g
  unfold subscriptTail
  refine wpAny_bind ?_
  rw [getitemInPython_of_ne hT.not_modules]
  refine wpAny_bind (wpAny_specialOf hT PySem.F.slot_dict_getitem.lookup ?_)
  have fin : wpAny (model X.prog X.w) X.A (subscripted slice false (.ref a) u) (fun r s₃ => wpAny (model X.prog X.w) X.A (letTemporaryGo value (.ref a) r >>= fun _ => pure r) (EP X pins σ Q) X.xe s₃) X.xe s := by
    rw [hs]
    exact wpAny_operating (d_getItem hu I g ry fun w' s3 I3 rw' => wpAny_bind (wpAny_letTemporaryGo (wpAny_pure ⟨w, H, I3, rw', q⟩)))
  first
    | exact wpAny_pure (wpAny_bind fin)
    | exact wpAny_bind (wpAny_pure (wpAny_bind fin))
    | exact wpAny_bind fin
/-- of data or of a dict -/
theorem op_in_any (hu : X.A.units + 64 < cLine) : OpR X (compareOp .In) (fun x y H Q => (∃ p q r, DpT X.K H x p ∧ DpT X.K H y q ∧ gIn p q = some r ∧ Res X.K H r Q) ∨ rInDict false x y H Q) := OpR.ror (opd_in hu) (op_in_dict (by omega)) fun _ _ _ _ h => h
theorem op_notIn_any (hu : X.A.units + 64 < cLine) : OpR X (compareOp .NotIn) (fun x y H Q => (∃ p q r, DpT X.K H x p ∧ DpT X.K H y q ∧ gNotIn p q = some r ∧ Res X.K H r Q) ∨ rInDict true x y H Q) := OpR.ror (opd_notIn hu) (op_notIn_dict (by omega)) fun _ _ _ _ h => h
end
def inD (g : PyData → PyData → Option PyData) (neg : Bool) (x y : D) (s : ST) : Out D := match rd s x with
  | none => .no
  | some p => match dictAt y s with
    | some w => match look w.2 p with
      | some o => .ok (.py (.bool (if neg then !o.isSome else o.isSome))) s
      | none => .no
    | none => opt ((rd s y).bind fun q => g p q) s
def ixD (x y : D) (s : ST) : Out D := match rd s y with
  | none => .no
  | some q => match dictAt x s with
    | some w => match look w.2 q with
      | some (some v) => .ok v s
      | _ => .no
    | none => opt ((rd s x).bind fun p => gIx p q) s
def e2 (h : D → D → ST → Out D) (fa fb : FE) : FE := fun s => (fa s).bind fun x s1 => (fb s1).bind fun y s2 => h x y s2
section
variable {X : Cx} {W : WX} {a b o i e value : Expr} {fa fb fo fi fe : FE} {pos pos' : Pos}
theorem e2_read {K : PySem.W.Frag} {H0 H : Hp} {φ0 φ ψ : List Addr} {s : ST} {σ : L2.St} {Q : VK} {h : D → D → ST → Out D} {r : R2} (S : Sim K H0 φ0 φ ψ H s σ) (o : OutE K W H0 φ0 φ ψ H σ Q (e2 h fa fb s))
    (k : ∀ x y v u s2 φ2 ψ2 H2, Sim K H0 φ0 φ2 ψ2 H2 s2 σ → RepD K H2 φ2 ψ2 x v → RepD K H2 φ2 ψ2 y u → OutE K W H0 φ0 φ2 ψ2 H2 σ Q (h x y s2) → r v u H2 Q) : tOp r (tE K W fa) (tE K W fb) σ H Q :=
  ⟨H0, φ0, φ, ψ, s, S, OutE.bE o fun x s1 φ1 ψ1 H1 v e1 S1 r1 o1 => ⟨H0, φ0, φ1, ψ1, s1, S1, OutE.bE o1 fun y s2 φ2 ψ2 H2 u e2 S2 r2 o2 => k x y v u s2 φ2 ψ2 H2 S2 (r1.ext e2) r2 o2⟩⟩
theorem inD_read {K : PySem.W.Frag} {H0 H : Hp} {φ0 φ ψ : List Addr} {s : ST} {σ : L2.St} {Q : VK} {g : PyData → PyData → Option PyData} {neg : Bool} {x y : D} {v u : V} (S : Sim K H0 φ0 φ ψ H s σ) (r1 : RepD K H φ ψ x v) (r2 : RepD K H φ ψ y u) (o : OutE K W H0 φ0 φ ψ H σ Q (inD g neg x y s)) :
    (∃ p q r, DpT K H v p ∧ DpT K H u q ∧ g p q = some r ∧ Res K H r Q) ∨ rInDict neg v u H Q := by
  unfold inD at o
  split at o
  · exact o.elim
  · rename_i p ep
    split at o
    · rename_i w ew
      obtain ⟨a, rfl, rv⟩ := dictAt_ok S r2 ew
      split at o
      · rename_i oo el
        obtain ⟨ov, hg, hm⟩ := look_ok rv (rd_ok S r1 ep) el
        have eo : ov.isSome = oo.isSome := by
          cases oo with
          | none => rw [show ov = none from hm]; rfl
          | some d => obtain ⟨w', e', _⟩ := hm; rw [e']; rfl
        exact .inr ⟨a, ov, rfl, hg, by rw [eo]; exact o φ ψ H _ (Ext.refl _ _ _) S (.bl _)⟩
      · exact o.elim
    · obtain ⟨r, e, k⟩ := opt_ok S o
      obtain ⟨q, eq, e⟩ := Option.bind_eq_some_iff.mp e
      exact .inl ⟨p, q, r, rd_ok S r1 ep, rd_ok S r2 eq, e, k⟩
theorem ped_in (hu : X.A.units + 64 < cLine) (ha : PED X W a fa) (hb : PED X W b fb) (hm : behindInMarks .In b = false := by first | exact nomark _ (by decide) (by decide) | rfl) : PED X W (.Compare a [.In] [b] pos) (e2 (inD gIn false) fa fb) :=
  PE.imp (pe_cmpR (op_in_any hu) ha hb hm) fun σ H Q ⟨H0, φ0, φ, ψ, s, S, o⟩ => e2_read S o fun x y v u s2 φ2 ψ2 H2 S2 r1 r2 o2 => inD_read S2 r1 r2 o2
theorem ped_notIn (hu : X.A.units + 64 < cLine) (ha : PED X W a fa) (hb : PED X W b fb) (hm : behindInMarks .NotIn b = false := by first | exact nomark _ (by decide) (by decide) | rfl) : PED X W (.Compare a [.NotIn] [b] pos) (e2 (inD gNotIn true) fa fb) :=
  PE.imp (pe_cmpR (op_notIn_any hu) ha hb hm) fun σ H Q ⟨H0, φ0, φ, ψ, s, S, o⟩ => e2_read S o fun x y v u s2 φ2 ψ2 H2 S2 r1 r2 o2 => inD_read S2 r1 r2 o2
theorem ptd_in (hu : X.A.units + 64 < cLine) (ha : PED X W a fa) (hb : PED X W b fb) (hm : behindInMarks .In b = false := by first | exact nomark _ (by decide) (by decide) | rfl) : PTD X W (.Compare a [.In] [b] pos) (toB (e2 (inD gIn false) fa fb)) :=
  PT.imp (pt_cmpR (op_in_any hu) ha hb hm) fun σ H Q ⟨H0, φ0, φ, ψ, s, S, o⟩ => e2_read S (toB_of o) fun x y v u s2 φ2 ψ2 H2 S2 r1 r2 o2 => inD_read S2 r1 r2 o2
theorem ptd_notIn (hu : X.A.units + 64 < cLine) (ha : PED X W a fa) (hb : PED X W b fb) (hm : behindInMarks .NotIn b = false := by first | exact nomark _ (by decide) (by decide) | rfl) : PTD X W (.Compare a [.NotIn] [b] pos) (toB (e2 (inD gNotIn true) fa fb)) :=
  PT.imp (pt_cmpR (op_notIn_any hu) ha hb hm) fun σ H Q ⟨H0, φ0, φ, ψ, s, S, o⟩ => e2_read S (toB_of o) fun x y v u s2 φ2 ψ2 H2 S2 r1 r2 o2 => inD_read S2 r1 r2 o2
theorem ped_get (hu : X.A.units + 64 < cLine) (ha : PED X W a fa) (hb : PED X W b fb) (hs : PlainIx b := by intro _ _; rfl) : PED X W (.Subscript a b pos) (e2 ixD fa fb) :=
  PE.imp (pe_ix (ix_seq.or (ix_dict (by omega))) ha hb hs) fun σ H Q ⟨H0, φ0, φ, ψ, s, S, o⟩ => e2_read S o fun x y v u s2 φ2 ψ2 H2 S2 r1 r2 o2 => by
    unfold ixD at o2
    split at o2
    · exact o2.elim
    · rename_i q eq
      have hq := rd_ok S2 r2 eq
      split at o2
      · rename_i w ew
        obtain ⟨ad, rfl, rv⟩ := dictAt_ok S2 r1 ew
        split at o2
        · rename_i d el
          obtain ⟨ov, hg, w', e', r'⟩ := look_ok rv hq el
          subst e'
          exact .inr ⟨ad, w', rfl, hg, o2 φ2 ψ2 H2 _ (Ext.refl _ _ _) S2 r'.nil⟩
        · exact o2.elim
      · obtain ⟨r, e, k⟩ := opt_ok S2 o2
        obtain ⟨p, ep, e⟩ := Option.bind_eq_some_iff.mp e
        have hp := rd_ok S2 r1 ep
        refine .inl ?_
        unfold gIx at e
        split at e
        · obtain ⟨aa, vs, rfl, hA, da⟩ := hp
          have := hq.int; subst u
          obtain ⟨w, ev, dv⟩ := atI_dp da e
          exact .inl ⟨_, vs, _, w, rfl, rfl, hA, ev, k _ _ (Same.refl _) dv⟩
        · obtain ⟨aa, vs, rfl, hA, da⟩ := hp.tup
          have := hq.int; subst u
          obtain ⟨w, ev, dv⟩ := atI_dp da e
          exact .inr (.inl ⟨_, vs, _, w, rfl, rfl, sqT_up hA, ev, k _ _ (Same.refl _) dv⟩)
        · split at e
          · rename_i hz
            obtain ⟨cc, ec, er⟩ := Option.map_eq_some_iff.mp e
            subst er
            have := hp.str; have := hq.int; subst v u
            exact .inr (.inr ⟨_, _, cc, rfl, rfl, hz, ec, k _ _ (Same.refl _) (.str _)⟩)
          · cases e
        · cases e
/-! d[y] = v -/
def sPutAt (x y z : D) (s : ST) : Out Fl := match rd s y, z with
  | some p, .py q => match setAt x p q s with
    | some s' => .ok .nx s'
    | none => .no
  | _, _ => .no
def sDSet (fo fi fv : FE) : FSt := fun s => (fv s).bind fun z s1 => (fo s1).bind fun x s2 => (fi s2).bind fun y s3 => sPutAt x y z s3
theorem psd_dset (hu : X.A.units + 64 < cLine) (ho : PED X W o fo) (hi : PED X W i fi) (hv : PED X W value fe) (hs : swapsWith value (some (.Subscript o i pos')) pos.line X.env = pure false := by rfl) : PSD X W (.Assign [.Subscript o i pos'] value pos) (sDSet fo fi fe) :=
  PS.imp (ps_dput (by omega) ho hi hv hs) fun D' σ H ⟨H0, φ0, φ, ψ, s, S, o⟩ => ⟨H0, φ0, φ, ψ, s, S, OutS.bE o fun z s1 φ1 ψ1 H1 w e1 S1 r1 o1 => ⟨H0, φ0, φ1, ψ1, s1, S1, OutS.bE o1 fun x s2 φ2 ψ2 H2 v e2 S2 r2 o2 =>
    ⟨H0, φ0, φ2, ψ2, s2, S2, OutS.bE o2 fun y s3 φ3 ψ3 H3 u e3 S3 r3 o3 => by
      unfold sPutAt at o3
      split at o3
      · rename_i p q ep
        split at o3
        · rename_i s' es
          have r1' : Dp [] (Fz H3) w q := r1.ext (e2.trans e3)
          obtain ⟨a, H', rfl, g, S', x'⟩ := setAt_ok S3 (r2.ext e3) (rd_ok S3 r3 ep) r1' es
          exact ⟨a, H', rfl, g, o3 φ3 ψ3 H' σ x' S'⟩
        · exact o3.elim
      · exact o3.elim⟩⟩⟩
/-! displays -/
def eNewK : FE := fun s => .ok (.loc s.L.length) { s with L := s.L ++ [.dK []] }
def eNewT : FE := fun s => .ok (.loc s.L.length) { s with L := s.L ++ [.dT []] }
theorem ped_newK : PED X W (.Dict [] [] pos) eNewK := PE.imp pe_dnewK fun σ H Q ⟨H0, φ0, φ, ψ, s, S, o⟩ p hp => o φ (ψ ++ [p]) _ _ (Ext.newL hp) (S.newL hp fun H' e => by subst e; exact ⟨[], upd_same, .nil⟩) ⟨p, newL_val S, rfl⟩
theorem ped_newT : PED X W (.Dict [] [] pos) eNewT := PE.imp pe_dnewT fun σ H Q ⟨H0, φ0, φ, ψ, s, S, o⟩ p hp => o φ (ψ ++ [p]) _ _ (Ext.newL hp) (S.newL hp fun H' e => by subst e; exact ⟨[], upd_same, .nil⟩) ⟨p, newL_val S, rfl⟩
/-- the pairs, one after the other; then the dict at n is filled -/
def dispD (n : Nat) : List (FE × FE) → List (Key × PyData) → ST → Out D
  | [], kvs, s => match s.L[n]? with
    | some (.dK []) => .ok (.loc n) { s with L := s.L.set n (.dK (kvs.foldl (fun acc p => putD acc p.1 p.2) [])) }
    | _ => .no
  | (fk, fv) :: r, kvs, s => (fk s).bind fun x s1 => (fv s1).bind fun y s2 => match x, y with
    | .py p, .py q => match keyOf p with
      | some k => dispD n r (kvs ++ [(k, q)]) s2
      | none => .no
    | _, _ => .no
def eDisp (prs : List (FE × FE)) : FE := fun s => dispD s.L.length prs [] { s with L := s.L ++ [.dK []] }
structure PPsD (X : Cx) (W : WX) (pos : Pos) (keys : List (Option Expr)) (values : List Expr) (prs : List (FE × FE)) : Prop where
  pp : PPs X pos keys values (prs.map fun p => (tE X.K W p.1, tE X.K W p.2))
theorem ppsd_nil : PPsD X W pos [] [] [] := ⟨pps_nil⟩
theorem ppsd_cons {k v : Expr} {ks : List (Option Expr)} {vs : List Expr} {fk fv : FE} {prs : List (FE × FE)} (hk : PED X W k fk) (hv : PED X W v fv) (hr : PPsD X W pos ks vs prs) : PPsD X W pos (some k :: ks) (v :: vs) ((fk, fv) :: prs) := ⟨pps_cons hk hv hr.pp⟩
theorem foldD_rel {H : Hp} : ∀ {kvs : List (Key × PyData)} {vvs : List (Key × V)} {acc : List (Key × PyData)} {bcc : List (Key × V)}, Paired (fun (p : Key × PyData) (q : Key × V) => p.1 = q.1 ∧ Dp [] (Fz H) q.2 p.2) kvs vvs → Paired (fun (p : Key × PyData) (q : Key × V) => p.1 = q.1 ∧ Dp [] (Fz H) q.2 p.2) acc bcc →
    Paired (fun (p : Key × PyData) (q : Key × V) => p.1 = q.1 ∧ Dp [] (Fz H) q.2 p.2) (kvs.foldl (fun acc p => putD acc p.1 p.2) acc) (mergeK bcc vvs)
  | _, _, _, _, .nil, h => h
  | (k1, p) :: kvs, (k2, v) :: vvs, acc, bcc, .cons ⟨e, r⟩ rr, h => by
    have e' : k1 = k2 := e
    subst e'
    exact foldD_rel (kvs := kvs) (vvs := vvs) (acc := putD acc k1 p) (bcc := putK bcc k1 v) rr (putD_rel (R := fun d v => Dp [] (Fz H) v d) r h)
theorem disp_read {K : PySem.W.Frag} {H0 : Hp} {φ0 : List Addr} {σ : L2.St} {Q : VK} {n : Nat} {P : Addr} {m : Nat} : ∀ {prs : List (FE × FE)} {kvs : List (Key × PyData)} {vvs : List (Key × V)} {s : ST} {φ ψ : List Addr} {H : Hp}, Sim K H0 φ0 φ ψ H s σ → ψ[n]? = some P →
    Paired (fun (p : Key × PyData) (q : Key × V) => p.1 = q.1 ∧ Dp [] (Fz H) q.2 p.2) kvs vvs → kvs.length + prs.length ≤ 15 → OutE K W H0 φ0 φ ψ H σ Q (dispD n prs kvs s) →
    tPairs (prs.map fun p => (tE K W p.1, tE K W p.2)) σ H fun ps H2 => H2 P = some (.dK []) ∧ ∃ kvs : List (Key × V), vvs.map (fun kv => (kV kv.1, kv.2)) ++ ps = kvs.map (fun kv => (kV kv.1, kv.2)) ∧ kvs.length ≤ 15 ∧ Q (.ref P) (upd H2 P (.dK (mergeK [] kvs)))
  | [], kvs, vvs, s, φ, ψ, H, S, hn, hp, hl, o => by
    unfold dispD at o
    split at o
    · rename_i el
      obtain ⟨ws, h1, h2⟩ := S.l n P _ hn el
      cases h2
      have hf : Fz H P = none := Fz_dK h1
      have f : ∀ z, FS H (upd H P z) := fun z => FS.upd hf
      refine ⟨h1, vvs, by simp, by rw [← hp.length]; simpa using hl, ?_⟩
      refine o φ ψ _ _ (Ext.setL S hf) (S.setL hn hf fun H' e => ?_) ⟨P, hn, rfl⟩
      subst e
      exact ⟨_, upd_same, foldD_rel (Paired.mapP hp fun _ _ z => ⟨z.1, dp_mono (f _) _ _ z.2⟩) .nil⟩
    · exact o.elim
  | (fk, fv) :: r, kvs, vvs, s, φ, ψ, H, S, hn, hp, hl, o => by
    unfold dispD at o
    refine ⟨H0, φ0, φ, ψ, s, S, OutE.bE o fun x s1 φ1 ψ1 H1 v e1 S1 r1 o1 => ⟨H0, φ0, φ1, ψ1, s1, S1, OutE.bE o1 fun y s2 φ2 ψ2 H2 u e2 S2 r2 o2 => ?_⟩⟩
    split at o2
    · rename_i p q
      split at o2
      · rename_i k ek
        have r1' : Dp [] (Fz H2) v p := r1.ext e2
        have r2' : Dp [] (Fz H2) u q := r2
        have ev : v = kV k := keyOf_ok r1' ek
        subst ev
        have x2 := e1.trans e2
        have hp2 : Paired (fun (p : Key × PyData) (q : Key × V) => p.1 = q.1 ∧ Dp [] (Fz H2) q.2 p.2) (kvs ++ [(k, q)]) (vvs ++ [(k, u)]) := paired_app (Paired.mapP hp fun _ _ z => ⟨z.1, dp_mono x2.f _ _ z.2⟩) (.cons ⟨rfl, r2'⟩ .nil)
        have h3 := disp_read (m := m) S2 (x2.q n P hn) hp2 (by simp at hl ⊢; omega) o2
        have e4 : ∀ ps : List (V × V), (vvs ++ [(k, u)]).map (fun kv => (kV kv.1, kv.2)) ++ ps = vvs.map (fun kv => (kV kv.1, kv.2)) ++ ((kV k, u) :: ps) := fun ps => by simp
        have mono : ∀ {trs : List (TE × TE)} {H : Hp} {R R' : List (V × V) → Hp → Prop}, (∀ ps H, R ps H → R' ps H) → (∀ p ∈ trs, (∀ σ H Q Q', (∀ v H, Q v H → Q' v H) → p.1 σ H Q → p.1 σ H Q') ∧ ∀ σ H Q Q', (∀ v H, Q v H → Q' v H) → p.2 σ H Q → p.2 σ H Q') → tPairs trs σ H R → tPairs trs σ H R' := by
          intro trs
          induction trs with
          | nil => intro H R R' k _ h; exact k _ _ h
          | cons t trs ih =>
            intro H R R' k hm h
            exact (hm t (List.mem_cons_self ..)).1 _ _ _ _ (fun v H1 h1 => (hm t (List.mem_cons_self ..)).2 _ _ _ _ (fun w H2 h2 => ih (fun ps H3 h3 => k _ _ h3) (fun p hp => hm p (List.mem_cons_of_mem _ hp)) h2) h1) h
        refine mono (fun ps H3 ⟨w1, kv2, w2, w3⟩ => ⟨w1, kv2, by rw [← w2, e4], w3⟩) (fun p hp => ?_) h3
        obtain ⟨pr, _, rfl⟩ := List.mem_map.mp hp
        have tEm : ∀ (f : FE) σ H (Q Q' : VK), (∀ v H, Q v H → Q' v H) → tE K W f σ H Q → tE K W f σ H Q' := fun f σ H Q Q' k ⟨H0, φ0, φ, ψ, s, S, o⟩ => by
          refine ⟨H0, φ0, φ, ψ, s, S, ?_⟩
          have m : ∀ {o : Out D}, OutE K W H0 φ0 φ ψ H σ Q o → OutE K W H0 φ0 φ ψ H σ Q' o := by
            intro o
            induction o with
            | ok d s' => exact fun h φ' ψ' H' v x S i => k _ _ (h φ' ψ' H' v x S i)
            | exc _ _ _ => exact id
            | no => exact id
            | pick n f ih => exact fun h i hi => ih i (h i hi)
          exact m o
        exact ⟨tEm pr.1, tEm pr.2⟩
      · exact o2.elim
    · exact o2.elim
theorem ped_disp {keys : List (Option Expr)} {values : List Expr} {prs : List (FE × FE)} (h : PPsD X W pos keys values prs) (h0 : keys ≠ []) (hp : prs.length ≤ 15) (hall : keys.all (·.isSome) = true := by rfl) (hl : keys.length = values.length := by rfl)
    (h15 : keys.length ≤ 15 := by decide) : PED X W (.Dict keys values pos) (eDisp prs) :=
  PE.imp (pe_disp h.pp hall hl h0 h15) fun σ H Q ⟨H0, φ0, φ, ψ, s, S, o⟩ p hpn => by
    have S2 := S.newL (u := .dK []) (o := .dK []) hpn fun H' e => by subst e; exact ⟨[], upd_same, .nil⟩
    have h3 := disp_read (m := 0) S2 (newL_val S) .nil (by simpa using hp) (OutE.ext (Ext.newL hpn) o)
    simpa using h3
end
end DL

set_option Elab.async false
set_option linter.all false
set_option maxRecDepth 100000
set_option maxHeartbeats 4000000
namespace DL
open PySem PySem.Spec PyProof.Rows L2
/-! ### {k: v for ..}, keys of either kind: as HandS.DictComp has it for ints and texts -/
theorem room_up {A : Around} (hu : A.units + 1 < cLine) : A.units < cLine := by omega
theorem d_dictSetP {X : Cx} {pins : List (Addr × Obj)} {σ : L2.St} {H H' : Hp} {s : Shared} {E : Value → Shared → Prop} {D : Addr} {y v : V} {u r : Value} {Q : Unit → Shared → Prop} (hu : X.A.units + 1 < cLine) (I : Inv X pins σ H s) (g : DPut H D y v H')
    (ry : RelV y u) (rv : RelV v r) (h : ∀ s', Inv X pins σ H' s' → Q () s') : wpAny (model X.prog X.w) X.A (dictSet D u r) Q E s := by
  rcases g with ⟨kvs, k, e, ey, l, eH⟩ | ⟨kvs, k, b, e, ey, eb, l, eH⟩
  · subst ey eH
    exact d_dictSet I e l ry rv h
  · subst ey eH
    cases (show u = Value.ref b from ry)
    obtain ⟨z, hd, xs, rel, dd⟩ := dt_of I.hok e
    have hz : xs.length ≤ sizeLine := by rw [← Paired.length rel]; exact z
    have hl : (putK kvs k v).length ≤ sizeLine := by have := length_putK kvs k v; omega
    refine wpAny_dictSet_heap (hsz := hz) (show (tupleKind (mixKind X.prog X.w)).room X.A from room_up hu) (key_of I.hok eb) dd fun h' dd' hs => h _ ?_
    obtain ⟨q, es, ep, hq, h2, h3, h4, _, h5⟩ := dd'
    refine d_write I (by rw [e]; exact True.intro) hs ⟨q, hq⟩ ⟨hl, hd, _, (rel.put k eb rv).keeps fun c ys ec => ?_, q, es, ep, hq, h2, h3, h4, h5⟩
    rw [upd_ne (ne_of ec e (fun z => nomatch z))]
    exact ec
section
variable {X : Cx}
def tDcP (o0 : HO) (wi : TI) (g : TG) (tt : TT) (tk tv : TE) (vs : List Nat) : TE := fun σ H Q => wi σ H fun J H1 => ∀ D, H1 D = none → ∃ W : Nat → Nat → Hp → Prop, (∃ m, W 0 m (upd H1 D o0)) ∧ ∀ i m H, W i m H →
  (J.stop i H ∧ Q (.ref D) H) ∨ (J.go i H ∧ ∃ Nx : Hp → Prop, (∀ H', Nx H' → ∃ m', m' < m ∧ W (i + 1) m' H') ∧ ∀ x H', J.yld i H x H' → g x (wipe σ vs) H' fun σ2 H2 => wipe σ2 vs = wipe σ vs ∧ tt σ2 H2 fun b H3 =>
    if b = true then tk σ2 H3 fun y H4 => tv σ2 H4 fun z H5 => ∃ H6, DPut H5 D y z H6 ∧ Nx H6 else Nx H3)
theorem dcP_core {o0 : HO} (ho : o0 = .dK [] ∨ o0 = .dT []) {pins : List (Addr × Obj)} {s : Shared} {σ : L2.St} {H : Hp} {Q : VK} {kx vx tg iter : Expr} {ifs : List Expr} {scope : Scope} {own : List (Str × Nat)} {pos pos' : Pos} {wi : TI} {g : TG} {tt : TT} {tk tv : TE} {use : Option (Value → Sem Unit)} {Qf : Value → Shared → Prop}
    (hu : X.A.units + 1 < cLine) (hc : X.calm = true) (hN : X.N.Nodup) (I : Inv X pins σ H s) (hi : PI X tg iter wi) (ok : BlkOk X.N X.env.scope scope own)
    (hg : ∀ (s : Shared) (H : Hp) (C : Addr) (cl : List (Str × Addr)) (fp : List Addr), PG (X.blk s H scope (compEnvC scope cl C X.env) fp) tg g) (ht : ∀ (s : Shared) (H : Hp) (C : Addr) (cl : List (Str × Addr)) (fp : List Addr), PTs (X.blk s H scope (compEnvC scope cl C X.env) fp) ifs tt)
    (hk : ∀ (s : Shared) (H : Hp) (C : Addr) (cl : List (Str × Addr)) (fp : List Addr), PE (X.blk s H scope (compEnvC scope cl C X.env) fp) kx tk)
    (he : ∀ (s : Shared) (H : Hp) (C : Addr) (cl : List (Str × Addr)) (fp : List Addr), PE (X.blk s H scope (compEnvC scope cl C X.env) fp) vx tv) (hs : ∀ x, foldedSetIterable iter X.env x = pure x)
    (h : tDcP o0 wi g tt tk tv (own.map (·.2)) σ H Q)
    (hRR : ∀ D C s' m H', Inv X pins σ H' s' → Q (.ref D) H' → s'.heap.Ns C m → FpOk X pins H' C → compPost (model X.prog X.w) X.A X.xe use Qf (.ref D) C (.ok .next) s') :
    wpAny (model X.prog X.w) X.A (comprehension (.DictComp kx vx [⟨tg, iter, ifs, 0⟩] scope pos) scope X.env pos' newDict false (eval iter X.env) use) Qf X.xe s := by
  have hfree : ∀ y ∈ scope.names, y.2 = .free → ∃ c, X.env.cells.lookup y.1 = some c := fun y hy e => by
    rcases ok.free y hy e with k | k
    · exact I.ok.has _ (.inl k)
    · exact I.ok.has _ (.inr k)
  refine wpAny_comprehension_free (use := use) rfl hs (closure_ok hfree) ok.kind (fun y hy e => by rw [ok.uniq y hy, e])
    (thn (hi.run pins s σ H _ I h) fun xv s1 hx => thn hx fun itv s2 h2 => ?_)
  obtain ⟨it, fp, tn, J, H2, e, I2, T, st2, f2, q⟩ := h2
  subst e
  refine wpAny_newObj_type (newEnv_comp ?_)
  generalize hD : s2.heap.objs.size = D
  have hDn : H2 D = none := I2.hok.fresh (Nat.le_of_eq hD)
  obtain ⟨W, ⟨m0, w0⟩, turn⟩ := q D hDn
  -- the new list
  generalize hs3 : ({ s2 with heap := s2.heap.push { cls := .type "dict", data := .dict #[] } } : Shared) = s3
  have I3 : Inv X pins σ (upd H2 D o0) s3 := by
    rw [← hs3]
    refine I2.laid (t' := s2.toks) (fun b o e => Heap.get?_push_of_some _ e) (Nat.le_of_eq hD) ?_
    rw [← hD]
    exact ho.elim (fun z => by subst z; exact dk_empty s2.heap I2.big) fun z => by subst z; exact dt_empty s2.heap I2.big
  have h3 : s3.heap = s2.heap.push { cls := .type "dict", data := .dict #[] } := by rw [← hs3]
  have sz : ∀ b ∈ fp, b < s2.heap.objs.size := fun b hb => by
    obtain ⟨o, e, _⟩ := T.obj _ _ st2 b hb
    exact Heap.lt_size e
  have f3 : ∀ b ∈ fp, FpOk X pins (upd H2 D o0) b ∧ b < s3.heap.objs.size := fun b hb => by
    have hlt := sz b hb
    refine ⟨⟨?_, (f2 b hb).2⟩, by rw [h3, Heap.size_push]; exact Nat.lt_succ_of_lt hlt⟩
    rw [upd_ne (by rw [← hD]; exact Nat.ne_of_lt hlt)]
    exact (f2 b hb).1
  have st3 : tn 0 s3.heap := T.keep _ _ _ st2 fun b _ o e => by rw [h3]; exact Heap.get?_push_of_some _ e
  have I4 := block_start I3 ok hN f3
  have pg := hg s3 (upd H2 D o0) s3.heap.objs.size (cellsFrom (s3.heap.objs.size + 1) scope.names (cloFrom X.env.cells scope.names [])) fp
  have pt := ht s3 (upd H2 D o0) s3.heap.objs.size (cellsFrom (s3.heap.objs.size + 1) scope.names (cloFrom X.env.cells scope.names [])) fp
  have pk := hk s3 (upd H2 D o0) s3.heap.objs.size (cellsFrom (s3.heap.objs.size + 1) scope.names (cloFrom X.env.cells scope.names [])) fp
  have pe := he s3 (upd H2 D o0) s3.heap.objs.size (cellsFrom (s3.heap.objs.size + 1) scope.names (cloFrom X.env.cells scope.names [])) fp
  show codeAny _ _ (.compStart (.DictComp kx vx [⟨tg, iter, ifs, 0⟩] scope pos) 0 (.ref it) (.ref D) (compEnvC scope (cellsFrom (s3.heap.objs.size + 1) scope.names (cloFrom X.env.cells scope.names [])) s3.heap.objs.size X.env)) (compPost (model X.prog X.w) X.A X.xe use Qf (.ref D) s3.heap.objs.size) { s3 with heap := pushCells (s3.heap.push { cls := .type "dict", data := .dict #[] }) scope.names }
  have nfp : ∀ b ∈ fp, (upd H2 D o0) b = none := fun b hb => (f3 b hb).1.1
  generalize hce : compEnvC scope (cellsFrom (s3.heap.objs.size + 1) scope.names (cloFrom X.env.cells scope.names [])) s3.heap.objs.size X.env = ce at I4 pg pt pk pe ⊢
  have cL : ce.locals = s3.heap.objs.size := by subst hce; rfl
  generalize hH3 : upd H2 D o0 = H3 at I3 I4 pg pt pk pe w0 nfp f3
  generalize hs4 : ({ s3 with heap := pushCells (s3.heap.push { cls := .type "dict", data := .dict #[] }) scope.names } : Shared) = s4 at I4 ⊢
  have st4 : tn 0 s4.heap := T.keep _ _ _ st3 fun b _ o e => by rw [← hs4]; exact pushCells_keeps _ _ _ _ (Heap.get?_push_of_some _ e)
  have stat : ∀ {σ' : L2.St} {H' : Hp} {s' : Shared}, Inv (X.blk s3 H3 scope ce fp) [] σ' H' s' → (∀ b ∈ fp, H' b = none) → ∀ b ∈ fp, FpOk (X.blk s3 H3 scope ce fp) [] H' b := fun {σ' H' s'} I' hn b hb =>
    ⟨hn b hb, (I'.ok.exf b hb).1, I'.ok.exfs b hb, .inl hb, fun x c e => (I'.ok.exf b hb).2 x c e, fun p hp => absurd (show p ∈ ([] : List (Addr × Obj)) ++ [] from hp) (by simp)⟩
  have loop : codeAny (model X.prog X.w) X.A (.compLoop (.DictComp kx vx [⟨tg, iter, ifs, 0⟩] scope pos) 0 (.ref it) (.ref D) ce) (compPost (model X.prog X.w) X.A X.xe use Qf (.ref D) s3.heap.objs.size) s4 := by
    refine compLoop_anyD (fun n s' => ∃ i H', Inv (X.blk s3 H3 scope ce fp) [] (wipe σ (own.map (·.2))) H' s' ∧ tn i s'.heap ∧ (∀ b ∈ fp, H' b = none) ∧ W i n H') ?_ m0 ⟨0, H3, I4, st4, nfp, w0⟩
    rintro n s5 ⟨i, H5, I5, st5, n5, w5⟩
    rcases turn i n H5 w5 with ⟨stop, qq⟩ | ⟨go, Nx, hNx, step⟩
    · have td := T.done (X.blk s3 H3 scope ce fp) rfl rfl rfl hc i [] s5 _ H5 (fun _ _ => False) I5 (stat I5 n5) st5 stop
      refine thnF td fun r s6 ⟨hr, I6⟩ => ?_
      subst hr
      -- back in the def's context
      have I7 : Inv X pins σ H5 s6 := I3.call' (ch := fp) I6.os I6.base I6.hok I6.bare fun b hb => ⟨(f3 b hb).1.2.2.2.1, (f3 b hb).1.2.1, (f3 b hb).1.2.2.2.2.1, (f3 b hb).1.2.2.2.2.2⟩
      have nC : H5 s3.heap.objs.size = none := by
        have z : H5 ce.locals = none := I6.free
        rw [cL] at z
        exact z
      obtain ⟨m, hn, _⟩ := I6.loc
      have hn : s6.heap.Ns ce.locals m := hn
      rw [cL] at hn
      exact hRR D s3.heap.objs.size s6 m H5 I7 qq hn (I3.fpOk (Nat.le_refl _) nC)
    · have ti := T.item (X.blk s3 H3 scope ce fp) rfl rfl rfl hc i [] s5 _ H5 (fun _ _ => False) I5 (stat I5 n5) st5 go
      refine thnF ti fun r s6 ⟨u, hr, h6⟩ => ?_
      subst hr
      refine thnF h6 fun _ s7 ⟨x, H7, I7, r7, y7, st7, n7⟩ => ?_
      have I7' := I7.pinned (stat I7 n7) (T.obj _ _ st7)
      refine thnF (pg.run _ s7 _ H7 x u _ I7' r7 (step x H7 y7)) fun _ s8 ⟨σ8, H8, I8, hw8, q8⟩ => ?_
      refine thnF (pt.run _ s8 σ8 H8 _ I8 q8) fun b s9 ⟨H9, I9, q9⟩ => ?_
      -- the turn's end
      have fin : ∀ {s' : Shared} {H' : Hp}, Inv (X.blk s3 H3 scope ce fp) ([] ++ pinsAt fp s7.heap) σ8 H' s' → Nx H' → ∃ m, m < n ∧ ∃ i H', Inv (X.blk s3 H3 scope ce fp) [] (wipe σ (own.map (·.2))) H' s' ∧ tn i s'.heap ∧ (∀ b ∈ fp, H' b = none) ∧ W i m H' := fun {s' H'} I' nx => by
        obtain ⟨m', hm, w'⟩ := hNx H' nx
        have pin' : ∀ b ∈ fp, ∀ o, s7.heap.get? b = some o → s'.heap.get? b = some o ∧ H' b = none := fun b hb o e =>
          let z := I'.pin (b, o) (List.mem_append_right _ (List.mem_append_right _ (mem_pinsAt hb e)))
          ⟨z.1, z.2.1⟩
        have hl : (wipe σ (own.map (·.2))).length = σ8.length := by rw [← hw8, wipe_length]
        refine ⟨m', hm, i + 1, H', (I'.unpinned (pins := [])).weak hl (fun j v e => ?_), T.keep _ _ _ st7 fun b hb o e => (pin' b hb o e).1, fun b hb => ?_, w'⟩
        · rw [← hw8] at e
          exact (wipe_some e).1
        · obtain ⟨o, e, _⟩ := T.obj _ _ st7 b hb
          exact (pin' b hb o e).2
      cases b with
      | false =>
        simp only [Bool.false_eq_true, if_false] at q9 ⊢
        exact fin I9 q9
      | true =>
        simp only [if_true] at q9 ⊢
        refine thnF (pk.run _ s9 σ8 H9 _ I9 q9) fun z s10 ⟨yk, H10, I10, r10, q10⟩ => ?_
        refine thnF (pe.run _ s10 σ8 H10 _ I10 q10) fun z2 s11 ⟨yv, H11, I11, r11, H12, hp, nx⟩ => ?_
        exact d_dictSetP (X := X.blk s3 H3 scope ce fp) hu I11 hp r10 r11 fun s12 I12 => fin I12 nx
  exact codeAny_compStart_dict loop (T.self X.A 0 _ _ _ st4 loop)

theorem pe_dcP {o0 : HO} (ho : o0 = .dK [] ∨ o0 = .dT []) (hu : X.A.units + 1 < cLine) {kx vx tg iter : Expr} {ifs : List Expr} {scope : Scope} {own : List (Str × Nat)} {pos : Pos} {wi : TI} {g : TG} {tt : TT} {tk tv : TE} (hc : X.calm = true) (hN : X.N.Nodup) (hi : PI X tg iter wi) (ok : BlkOk X.N X.env.scope scope own)
    (hg : ∀ (s : Shared) (H : Hp) (C : Addr) (cl : List (Str × Addr)) (fp : List Addr), PG (X.blk s H scope (compEnvC scope cl C X.env) fp) tg g) (ht : ∀ (s : Shared) (H : Hp) (C : Addr) (cl : List (Str × Addr)) (fp : List Addr), PTs (X.blk s H scope (compEnvC scope cl C X.env) fp) ifs tt)
    (hk : ∀ (s : Shared) (H : Hp) (C : Addr) (cl : List (Str × Addr)) (fp : List Addr), PE (X.blk s H scope (compEnvC scope cl C X.env) fp) kx tk)
    (he : ∀ (s : Shared) (H : Hp) (C : Addr) (cl : List (Str × Addr)) (fp : List Addr), PE (X.blk s H scope (compEnvC scope cl C X.env) fp) vx tv) (hs : ∀ x, foldedSetIterable iter X.env x = pure x := by intro _; rfl) :
    PE X (.DictComp kx vx [⟨tg, iter, ifs, 0⟩] scope pos) (tDcP o0 wi g tt tk tv (own.map (·.2))) := by
  refine ⟨fun pins s σ H Q I h => ?_⟩
  rw [arm_eval_DictComp]
  refine dcP_core ho hu hc hN I hi ok hg ht hk he hs h fun D C s' m H' I' q hn f => ⟨m, hn, fun h'' sb => ?_⟩
  obtain ⟨f0, f1, f2, f3, f4, f5⟩ := f
  exact ⟨.ref D, H', I'.turned (t' := s'.toks) (fun b o hb e => (sb.2 b hb).trans e) f0 f1 f3 f4 f5, rfl, q⟩

end
end DL

set_option Elab.async false
set_option linter.all false
set_option maxRecDepth 100000
set_option maxHeartbeats 2000000
namespace DL
open PySem PySem.Spec PyProof.Rows L2
/-! ### dict comprehensions -/
def dcL (n : Nat) (S0 : List (Option D)) (tg : Tg) (ft : FT) (fk fv : FE) (fin : ST → Out D) : List PyData → ST → Out D
  | [], s => fin { s with S := S0 }
  | x :: xs, s => match tg.put (.py x) { s with S := S0 } with
    | none => .no
    | some s1 => (noX (ft s1)).bind fun b s2 => match b with
      | true => (noX (fk s2)).bind fun y s3 => (noX (fv s3)).bind fun z s4 => match rd s4 y, z with
        | some p, .py q => match setAt (.loc n) p q s4 with
          | some s5 => dcL n S0 tg ft fk fv fin xs s5
          | none => .no
        | _, _ => .no
      | false => dcL n S0 tg ft fk fv fin xs s2
def eDcG (o : LO) (fi : FI) (tg : Tg) (vs : List Nat) (ft : FT) (fk fv : FE) : FE := fun s => (fi s).bind fun items s1 =>
  dcL s1.L.length (wipeD s1.S vs) tg ft fk fv (lcEndL s1.L.length s1.S) items { s1 with L := s1.L ++ [o] }
def eDcK := eDcG (.dK [])
def eDcT := eDcG (.dT [])
section
variable {K : PySem.W.Frag} {W : WX} {H0 : Hp} {φ0 φb ψb φ2 ψ2 : List Addr} {Hb H1 H2 : Hp} {σ σw : L2.St} {Q : VK} {tg : Tg} {ft : FT} {fk fv : FE} {fin : ST → Out D} {S0 : List (Option D)} {vs : List Nat} {J : It} {D0 : Addr} {n : Nat}
theorem dc_walk {items : List PyData} {s : ST} {Z : Hp → Prop} (it : ItOk K J H1 items) (fs1 : FS H1 H2) (hn : ψ2[n]? = some D0) (hw : ∀ i ∈ tg.sl, i ∈ vs) (hwp : wipe σw vs = σw) (S2 : Sim K H0 φ0 φ2 ψ2 H2 { s with S := S0 } σw)
    (o : OutE K W H0 φ0 φb ψb Hb σ Q (dcL n S0 tg ft fk fv fin items s))
    (done : ∀ φ' ψ' H' (s' : ST), Ext φ2 ψ2 H2 φ' ψ' H' → Sim K H0 φ0 φ' ψ' H' { s' with S := S0 } σw → OutE K W H0 φ0 φb ψb Hb σ Q (fin { s' with S := S0 }) → Z H') :
    ∃ Wm : Nat → Nat → Hp → Prop, (∃ m, Wm 0 m H2) ∧ ∀ i m H, Wm i m H → (J.stop i H ∧ Z H) ∨ (J.go i H ∧ ∃ Nx : Hp → Prop, (∀ H', Nx H' → ∃ m', m' < m ∧ Wm (i + 1) m' H') ∧ ∀ x H', J.yld i H x H' →
      tg.g K x σw H' fun σ2 H2 => wipe σ2 vs = σw ∧ tT K WF ft σ2 H2 fun b H3 =>
        if b = true then tE K WF fk σ2 H3 fun y H4 => tE K WF fv σ2 H4 fun z H5 => ∃ H6, DPut H5 D0 y z H6 ∧ Nx H6 else Nx H3) := by
  refine walkLc it (fun i H => ∃ φ' ψ', ∃ s' : ST, Ext φ2 ψ2 H2 φ' ψ' H ∧ Sim K H0 φ0 φ' ψ' H { s' with S := S0 } σw ∧ OutE K W H0 φ0 φb ψb Hb σ Q (dcL n S0 tg ft fk fv fin (items.drop i) s')) (fun i H ⟨φ', ψ', s', x, _⟩ => fs1.trans x.f) ⟨φ2, ψ2, s, Ext.refl _ _ _, S2, o⟩ ?_ ?_
  · rintro i x H v H' ei ⟨φ', ψ', s', x2, S', o'⟩ sm dp
    rw [drop_at ei] at o'
    unfold dcL at o'
    cases ep : tg.put (.py x) { s' with S := S0 } with
    | none => rw [ep] at o'; exact o'.elim
    | some s1 =>
      rw [ep] at o'
      have S3 := S'.grow sm
      have x3 : Ext φ2 ψ2 H2 φ' ψ' H' := x2.trans (Ext.grow sm)
      refine Tg.run S3 (d := .py x) dp ep fun σ' wp S4 => ⟨by rw [wp vs hw, hwp], ⟨H0, φ0, φ', ψ', s1, S4, OutE.bTX (fun b s5 φ5 ψ5 H5 x5 S5 o5 => ?_) o'⟩⟩
      cases b with
      | true =>
        rw [if_pos rfl]
        refine ⟨H0, φ0, φ5, ψ5, s5, S5, OutE.bEX (fun y s6 φ6 ψ6 H6 w x6 S6 r6 o6 => ⟨H0, φ0, φ6, ψ6, s6, S6, OutE.bEX (fun z s7 φ7 ψ7 H7 u x7 S7 r7 o7 => ?_) o6⟩) o5⟩
        split at o7
        · rename_i p q ep
          split at o7
          · rename_i s8 es
            have x27 : Ext φ2 ψ2 H2 φ7 ψ7 H7 := x3.trans (x5.trans (x6.trans x7))
            have hD : ψ7[n]? = some D0 := x27.q n D0 hn
            obtain ⟨a, H8, ea, g, S8, x8⟩ := setAt_ok (x := .loc n) (v := .ref D0) S7 ⟨D0, hD, rfl⟩ (rd_ok S7 (r6.ext x7) ep) r7 es
            cases ea
            exact ⟨H8, g, φ7, ψ7, _, x27.trans x8, S8.back S2 (x27.trans x8), o7⟩
          · exact o7.elim
        · exact o7.elim
      | false =>
        rw [if_neg Bool.false_ne_true]
        have x25 : Ext φ2 ψ2 H2 φ5 ψ5 H5 := x3.trans x5
        exact ⟨φ5, ψ5, s5, x25, S5.back S2 x25, o5⟩
  · rintro H ⟨φ', ψ', s', x2, S', o'⟩
    rw [List.drop_length] at o'
    exact done φ' ψ' H s' x2 S' o'
end
theorem lcEndG_ok {K : PySem.W.Frag} {W : WX} {H0 H1 H' : Hp} {φ0 φ1 ψ1 φ' ψ' : List Addr} {s1 s' : ST} {σ σ' : L2.St} {D0 : Addr} {u : HO} {Q : VK} (S1 : Sim K H0 φ0 φ1 ψ1 H1 s1 σ) (hD : H1 D0 = none) (x' : Ext φ1 (ψ1 ++ [D0]) (upd H1 D0 u) φ' ψ' H') (S' : Sim K H0 φ0 φ' ψ' H' s' σ')
    (o' : OutE K W H0 φ0 φ1 ψ1 H1 σ Q (lcEndL s1.L.length s1.S s')) : Q (.ref D0) H' := by
  have hn : (ψ1 ++ [D0])[s1.L.length]? = some D0 := newL_val S1
  have g1 : Same H1 (upd H1 D0 u) := grow_new hD
  have hD' : ψ'[s1.L.length]? = some D0 := x'.q _ _ hn
  have p1 : Pre ψ1 (ψ'.take (s1.L.length + 1)) := fun m a e => by
    have hl : m < ψ1.length := (List.getElem?_eq_some_iff.mp e).1
    have := S1.ll
    rw [List.getElem?_take_of_lt (by omega)]
    exact x'.q m a (Pre.app ψ1 [D0] m a e)
  have f1 : FS H1 H' := (FS.same g1).trans x'.f
  have S8 := S'.trunc (s1.L.length + 1) (S1 := s1.S) (σ' := σ) S1.sl fun i d h => let ⟨v, w1, w2⟩ := S1.s i d h; ⟨v, w1, w2.mono f1 x'.p p1⟩
  exact o' φ' (ψ'.take (s1.L.length + 1)) _ _ ⟨f1, x'.p, p1⟩ S8 ⟨D0, by rw [List.getElem?_take_of_lt (by omega)]; exact hD', rfl⟩
section
variable {X : Cx} {W : WX} {kx vx tgx iter e : Expr} {ifs : List Expr} {scope : Scope} {own : List (Str × Nat)} {pos p : Pos} {fi : FI} {tg : Tg} {ft : FT} {fk fv fe : FE} {fs : FA}
theorem read_dc {K : PySem.W.Frag} {o0 : HO} {l0 : LO} (h0 : ∀ (H : Hp) a, H a = some o0 → RepL K H a l0) (hw : ∀ i ∈ tg.sl, i ∈ own.map (·.2)) {σ : L2.St} {H : Hp} {Q : VK} (h : tE K W (eDcG l0 fi tg (own.map (·.2)) ft fk fv) σ H Q) : tDcP o0 (tI K W fi) (tg.g K) (tT K WF ft) (tE K WF fk) (tE K WF fv) (own.map (·.2)) σ H Q := by
  obtain ⟨H0, φ0, φ, ψ, s, S, o⟩ := h
  exact ⟨H0, φ0, φ, ψ, s, S, OutE.bI' (fun items s1 φ1 ψ1 H1 J x1 S1 it o1 => fun D0 hD => by
    have S2 := S1.newL (u := o0) (o := l0) hD fun H' e => by subst e; exact h0 _ _ upd_same
    exact dc_walk it (FS.same (grow_new hD)) (newL_val S1) hw (wipe_wipe _ _) (S2.wipe (own.map (·.2))) o1 fun φ' ψ' H' s' x' S' o' => lcEndG_ok S1 hD x' S' o') o⟩
theorem ped_dcK (hu : X.A.units + 64 < cLine) (hc : X.calm = true) (hN : X.N.Nodup) (hi : PID X W tgx iter fi) (ok : BlkOk X.N X.env.scope scope own) (hg : BPG X scope tgx tg) (ht : BPTs X scope ifs ft) (hk : BPE X scope kx fk) (he : BPE X scope vx fv) (hw : ∀ i ∈ tg.sl, i ∈ own.map (·.2)) (hs : ∀ x, foldedSetIterable iter X.env x = pure x := by intro _; rfl) :
    PED X W (.DictComp kx vx [⟨tgx, iter, ifs, 0⟩] scope pos) (eDcK fi tg (own.map (·.2)) ft fk fv) := PE.imp (pe_dcP (o0 := .dK []) (.inl rfl) (by omega) hc hN hi ok hg ht hk he hs) fun σ H Q h => read_dc (l0 := .dK []) (fun H a e => ⟨[], e, .nil⟩) hw h
theorem ped_dcT (hu : X.A.units + 64 < cLine) (hc : X.calm = true) (hN : X.N.Nodup) (hi : PID X W tgx iter fi) (ok : BlkOk X.N X.env.scope scope own) (hg : BPG X scope tgx tg) (ht : BPTs X scope ifs ft) (hk : BPE X scope kx fk) (he : BPE X scope vx fv) (hw : ∀ i ∈ tg.sl, i ∈ own.map (·.2)) (hs : ∀ x, foldedSetIterable iter X.env x = pure x := by intro _; rfl) :
    PED X W (.DictComp kx vx [⟨tgx, iter, ifs, 0⟩] scope pos) (eDcT fi tg (own.map (·.2)) ft fk fv) := PE.imp (pe_dcP (o0 := .dT []) (.inr rfl) (by omega) hc hN hi ok hg ht hk he hs) fun σ H Q h => read_dc (l0 := .dT []) (fun H a e => ⟨[], e, .nil⟩) hw h
/-! ### sorted(d), list(d), tuple(d) of a dict -/
def kD : Key → PyData
  | .inl i => .int i
  | .inr x => .str x
def keysD : DV → List PyData
  | .k kvs => kvs.map fun p => kD p.1
  | .t kvs => kvs.map fun p => .tuple (p.1.map kD)
theorem kD_dp {K : PySem.W.Frag} {H : Hp} : ∀ k : Key, Dp K H (kV k) (kD k)
  | .inl i => .int i
  | .inr x => .str x
theorem kDs_dp {K : PySem.W.Frag} {H : Hp} : ∀ ks : List Key, DpAll K H (ks.map kV) (ks.map kD)
  | [] => .nil
  | k :: ks => .cons (kD_dp k) (kDs_dp ks)
/-- the keys, as values -/
def KeyVs (H : Hp) (a : Addr) (d : DV) (vv : List V) : Prop := DpAll [] (Fz H) vv (keysD d)
theorem keys_collect {pins : List (Addr × Obj)} {σ : L2.St} {H : Hp} {s : Shared} {φ : List Addr} {a : Addr} {d : DV} (I : Inv X pins σ H s) (hc : X.calm = true) (r : RepV X.K H φ a d) : ∃ vv, DpAll [] (Fz H) vv (keysD d) ∧
    ∀ (A : Around), A.handled = none → ∀ R : List Value → Shared → Prop, (∀ vs h' tk, Vals vv vs → (∀ b o, s.heap.get? b = some o → h'.get? b = some o) → R vs { s with heap := h', toks := tk }) → wpAny (model X.prog X.w) A (collect (.ref a)) R X.xe s := by
  cases d with
  | k kvs =>
    obtain ⟨vvs, h1, h2⟩ := r
    obtain ⟨z, lo, vs, rk, hd⟩ := (show ObjOk X.prog X.w H s.heap a (.dK vvs) from I.hok a _ h1)
    obtain ⟨ep, hat⟩ := hd.dictAt
    have hl : vvs.length = vs.length := Paired.length rk
    refine ⟨vvs.map fun kv => kV kv.1, ?_, fun A hA R hR => ?_⟩
    · show DpAll [] (Fz H) _ (kvs.map fun p => kD p.1)
      clear h1 z rk hl
      induction h2 with
      | nil => exact .nil
      | @cons p q ps qs e _ ih =>
        rw [List.map_cons, List.map_cons, e.1]
        exact .cons (kD_dp _) ih
    · refine PySem.W.kdu_collect (PySem.W.kdl_dict (knd := mixKind X.prog X.w) (kvs := vs) (ep := ep) lo) hA hat (by rw [← hl]; exact z) fun h' tk acc hkeep hacc => hR _ h' tk ?_ hkeep
      have el : acc.toList.length = acc.size := by simp
      refine vals_of_at (by rw [List.length_map, el, hacc.1, hl]) fun j x w h1 h2 => ?_
      obtain ⟨k, y, hky, hi⟩ := hacc.2 j w (by rw [← Array.getElem?_toList]; exact h2)
      have e1 : (vvs.map (·.1))[j]? = some k := by rw [KV.keys rk, List.getElem?_map, hky] <;> rfl
      have e2 : (vvs.map fun kv => kV kv.1)[j]? = some (kV k) := by
        have e3 : (vvs.map fun kv => kV kv.1) = (vvs.map (·.1)).map kV := by rw [List.map_map] <;> rfl
        rw [e3, List.getElem?_map, e1] <;> rfl
      rw [e2] at h1
      cases h1
      exact keyIs_rel hi
  | t kvs =>
    obtain ⟨vvs, hd, h2⟩ := r
    obtain ⟨z, hs, ks, pr, o, es, ep, ho, hx, hdt, he, hn⟩ := (show ObjOk X.prog X.w H s.heap a (.dT vvs) from I.hok a _ hd)
    have l1 : es.size = ks.length := size_of_entries he
    have l2 : vvs.length = ks.length := Paired.length pr
    refine ⟨(ks.map fun x => x.2.1).map V.ref, ?_, fun A hA R hR => ?_⟩
    · have ik := isKeys_of pr
      unfold IsKeys at ik
      show DpAll [] (Fz H) _ (kvs.map fun p => .tuple (p.1.map kD))
      clear hn he hdt ho pr l1 l2 z hd
      generalize (ks.map fun x => x.2.1) = bs at ik ⊢
      induction h2 generalizing bs with
      | nil => cases ik; exact .nil
      | @cons p q ps qs e _ ih =>
        cases ik with
        | @cons _ b _ bs h1 h2 =>
          rw [List.map_cons, List.map_cons, e.1]
          exact .cons (.tup (.inl (.inl (Fz_tup h1))) (kDs_dp _)) (ih _ h2)
    · refine PySem.W.kdu_collect (kdl_raw hs hx hdt) hA ho (by omega) fun h' tk acc hkeep it => hR _ h' tk ?_ hkeep
      have ea : acc.toList = ks.map fun x => Value.ref x.2.1 := by
        have hl : acc.toList.length = ks.length := by rw [Array.length_toList, it.1]; exact l1
        apply List.ext_getElem?
        intro j
        rw [List.getElem?_map]
        cases hj : acc.toList[j]? with
        | none =>
          have h1 := List.getElem?_eq_none_iff.mp hj
          rw [List.getElem?_eq_none (by omega)]
          all_goals rfl
        | some v =>
          obtain ⟨en, hen, hv⟩ := it.2 j v (by rw [← Array.getElem?_toList]; exact hj)
          have qe := entry_at he j
          rw [hen] at qe
          cases hb : ks[j]? with
          | none =>
            rw [hb] at qe
            exact nomatch (show some en = none from qe)
          | some b =>
            rw [hb] at qe
            have e2 : en = entryOfKey (tupleKind (mixKind X.prog X.w)) b := Option.some.inj qe
            rw [hv, e2]
            all_goals rfl
      have eb : acc.toList = (ks.map fun x => x.2.1).map Value.ref := by rw [ea, List.map_map]; all_goals rfl
      rw [eb]
      exact vals_refs _
def sortD (ds : List D) (s : ST) : Out D := match ds with
  | [x] => match dictAt x s with
    | some w => if okSort (keysD w.2) = true then .ok (.py (.list (srt (keysD w.2)))) s else .no
    | none => opt ((rd s x).bind gSorted) s
  | _ => .no
def eSort (fa : FA) : FE := fun s => (fa s).bind sortD
theorem call_sorted_any (hu : X.A.units + 64 < cLine) (hc : X.calm = true) : CallR X (.builtin "sorted") (fun xs H Q => (∃ v p r, xs = [v] ∧ DpT X.K H v p ∧ gSorted p = some r ∧ Res X.K H r Q) ∨ ∃ φ a d, xs = [V.ref a] ∧ RepV X.K H φ a d ∧ okSort (keysD d) = true ∧ Res X.K H (.list (srt (keysD d))) Q) := by
  intro pins s σ H xs us Q I r h
  rcases h with h | ⟨φ, a, d, rfl, rv, ok, k⟩
  · exact cald_sorted hu pins s σ H xs us Q I r h
  · rw [Vals.ref1 r]
    obtain ⟨vv, da, hcol⟩ := keys_collect I hc rv
    exact sorted_coll I da ok hu (args_sorted1 _) (fun R hR => hcol X.A.in1 (I.ok.hd hc) R hR) k
theorem ped_sort (hu : X.A.units + 64 < cLine) (hc : X.calm = true) (hg : Gl X "sorted") (hm : X.mg "sorted" = none) (ha : PAD X W [e] fs)
    (he : starEach [e] X.env = (false, eval e X.env) :: starEach [] X.env := by rfl) (hpl : (backTo pos (starEach [] X.env)).any (·.1) = false := by rfl) : PED X W (.Call (.Name "sorted" p) [e] [] pos) (eSort fs) :=
  PE.imp (pe_callB (call_sorted_any hu hc) hg hm boot_sorted ha (by decide) (by decide) he hpl) fun σ H Q ⟨H0, φ0, φ, ψ, s, S, o⟩ => ⟨H0, φ0, φ, ψ, s, S, OutE.bA o fun ds s1 φ1 ψ1 H1 vs e1 S1 r1 o1 => by
    unfold sortD at o1
    split at o1
    · rename_i x
      cases r1 with
      | cons r1 r2 =>
        cases r2
        split at o1
        · rename_i w ew
          split at o1
          · rename_i ok
            obtain ⟨a, rfl, rv⟩ := dictAt_ok S1 r1 ew
            exact .inr ⟨φ1, a, w.2, rfl, rv, ok, fun u H' sm dp => o1 φ1 ψ1 H' u (Ext.grow sm) (S1.grow sm) dp⟩
          · exact o1.elim
        · obtain ⟨w, e, k⟩ := opt_ok S1 o1
          obtain ⟨q, eq, e⟩ := Option.bind_eq_some_iff.mp e
          exact .inl ⟨_, q, w, rfl, rd_ok S1 r1 eq, e, k⟩
    · exact o1.elim⟩
end
end DL

set_option Elab.async false
set_option linter.all false
set_option maxRecDepth 100000
set_option maxHeartbeats 2000000
namespace DL
open PySem PySem.Spec PyProof.Rows L2
/-! ### a dict of the module with text keys -/
abbrev TabD := List (Str × Option D)
/-- what is known of it: what some keys hold, which keys it hasn't -/
structure Tb (K : PySem.W.Frag) (w : World) (mg : Str → Option Value) (x : Str) (tb : TabD) : Prop where
  kd : ∃ es n, KDict K w (He.ga K x) es n
  mgx : mg x = some (.ref (He.ga K x))
  has : ∀ p ∈ tb, match p.2 with
    | some d => ∃ u v, PySem.W.nsIn K (He.ga K x) p.1 = some (some u) ∧ RelV v u ∧ ∀ H, RepD K H [] [] d v
    | none => PySem.W.nsIn K (He.ga K x) p.1 = some none
def tbGet (tb : TabD) (z : Str) : Option (Option D) := match tb with
  | [] => none
  | (y, d) :: r => if y = z then some d else tbGet r z
theorem tbGet_mem {z : Str} {o : Option D} : ∀ {tb : TabD}, tbGet tb z = some o → (z, o) ∈ tb
  | [], e => by cases e
  | (y, d) :: r, e => by
    unfold tbGet at e
    split at e
    · rename_i h
      cases e; subst h
      exact List.mem_cons_self ..
    · exact List.mem_cons_of_mem _ (tbGet_mem e)
def tabAt (tb : TabD) (y : D) (s : ST) : Out D := match y with
  | .py (.str z) => match tbGet tb z with
    | some (some d) => .ok d s
    | _ => .no
  | _ => .no
def tabIn (tb : TabD) (neg : Bool) (y : D) (s : ST) : Out D := match y with
  | .py (.str z) => match tbGet tb z with
    | some o => .ok (.py (.bool (if neg then !o.isSome else o.isSome))) s
    | none => .no
  | _ => .no
section
variable {X : Cx} {W : WX} {x : Str} {tb : TabD} {i : Expr} {fi : FE} {pos p : Pos}
theorem ped_tabIn (t : Tb X.K X.w X.mg x tb) (hg : Gl X x) (hi : PED X W i fi) (hd : (x == ("__debug__" : Str)) = false := by decide) (hm : behindInMarks .In (.Name x p) = false := by rfl) : PED X W (.Compare i [.In] [.Name x p] pos) (fun s => (fi s).bind (tabIn tb false)) := by
  obtain ⟨es, n, kd⟩ := t.kd
  exact PE.imp (pe_cmpR (op_in_kd kd) hi (pe_glob (v := .ref (He.ga X.K x)) hg t.mgx rfl hd) hm) fun σ H Q ⟨H0, φ0, φ, ψ, s, S, o⟩ => ⟨H0, φ0, φ, ψ, s, S, OutE.bE o fun y s1 φ1 ψ1 H1 v e1 S1 r1 o1 => by
    unfold tabIn at o1
    split at o1
    · rename_i z
      have r' : Dp [] (Fz H1) v (.str z) := r1
      cases r'
      split at o1
      · rename_i oo e
        have h := t.has _ (tbGet_mem e)
        cases oo with
        | none => exact ⟨z, none, rfl, rfl, h, o1 φ1 ψ1 H1 _ (Ext.refl _ _ _) S1 (.bl _)⟩
        | some d => obtain ⟨u, w', h1, _⟩ := h; exact ⟨z, some u, rfl, rfl, h1, o1 φ1 ψ1 H1 _ (Ext.refl _ _ _) S1 (.bl _)⟩
      · exact o1.elim
    · exact o1.elim⟩
theorem ped_tabNotIn (t : Tb X.K X.w X.mg x tb) (hg : Gl X x) (hi : PED X W i fi) (hd : (x == ("__debug__" : Str)) = false := by decide) (hm : behindInMarks .NotIn (.Name x p) = false := by rfl) : PED X W (.Compare i [.NotIn] [.Name x p] pos) (fun s => (fi s).bind (tabIn tb true)) := by
  obtain ⟨es, n, kd⟩ := t.kd
  exact PE.imp (pe_cmpR (op_notIn_kd kd) hi (pe_glob (v := .ref (He.ga X.K x)) hg t.mgx rfl hd) hm) fun σ H Q ⟨H0, φ0, φ, ψ, s, S, o⟩ => ⟨H0, φ0, φ, ψ, s, S, OutE.bE o fun y s1 φ1 ψ1 H1 v e1 S1 r1 o1 => by
    unfold tabIn at o1
    split at o1
    · rename_i z
      have r' : Dp [] (Fz H1) v (.str z) := r1
      cases r'
      split at o1
      · rename_i oo e
        have h := t.has _ (tbGet_mem e)
        cases oo with
        | none => exact ⟨z, none, rfl, rfl, h, o1 φ1 ψ1 H1 _ (Ext.refl _ _ _) S1 (.bl _)⟩
        | some d => obtain ⟨u, w', h1, _⟩ := h; exact ⟨z, some u, rfl, rfl, h1, o1 φ1 ψ1 H1 _ (Ext.refl _ _ _) S1 (.bl _)⟩
      · exact o1.elim
    · exact o1.elim⟩
theorem ptd_tabIn (t : Tb X.K X.w X.mg x tb) (hg : Gl X x) (hi : PED X W i fi) (hd : (x == ("__debug__" : Str)) = false := by decide) (hm : behindInMarks .In (.Name x p) = false := by rfl) : PTD X W (.Compare i [.In] [.Name x p] pos) (toB fun s => (fi s).bind (tabIn tb false)) := by
  obtain ⟨es, n, kd⟩ := t.kd
  exact PT.imp (pt_cmpR (op_in_kd kd) hi (pe_glob (v := .ref (He.ga X.K x)) hg t.mgx rfl hd) hm) fun σ H Q ⟨H0, φ0, φ, ψ, s, S, o⟩ => ⟨H0, φ0, φ, ψ, s, S, OutE.bE (toB_of o) fun y s1 φ1 ψ1 H1 v e1 S1 r1 o1 => by
    unfold tabIn at o1
    split at o1
    · rename_i z
      have r' : Dp [] (Fz H1) v (.str z) := r1
      cases r'
      split at o1
      · rename_i oo e
        have h := t.has _ (tbGet_mem e)
        cases oo with
        | none => exact ⟨z, none, rfl, rfl, h, o1 φ1 ψ1 H1 _ (Ext.refl _ _ _) S1 (.bl _)⟩
        | some d => obtain ⟨u, w', h1, _⟩ := h; exact ⟨z, some u, rfl, rfl, h1, o1 φ1 ψ1 H1 _ (Ext.refl _ _ _) S1 (.bl _)⟩
      · exact o1.elim
    · exact o1.elim⟩
theorem ptd_tabNotIn (t : Tb X.K X.w X.mg x tb) (hg : Gl X x) (hi : PED X W i fi) (hd : (x == ("__debug__" : Str)) = false := by decide) (hm : behindInMarks .NotIn (.Name x p) = false := by rfl) : PTD X W (.Compare i [.NotIn] [.Name x p] pos) (toB fun s => (fi s).bind (tabIn tb true)) := by
  obtain ⟨es, n, kd⟩ := t.kd
  exact PT.imp (pt_cmpR (op_notIn_kd kd) hi (pe_glob (v := .ref (He.ga X.K x)) hg t.mgx rfl hd) hm) fun σ H Q ⟨H0, φ0, φ, ψ, s, S, o⟩ => ⟨H0, φ0, φ, ψ, s, S, OutE.bE (toB_of o) fun y s1 φ1 ψ1 H1 v e1 S1 r1 o1 => by
    unfold tabIn at o1
    split at o1
    · rename_i z
      have r' : Dp [] (Fz H1) v (.str z) := r1
      cases r'
      split at o1
      · rename_i oo e
        have h := t.has _ (tbGet_mem e)
        cases oo with
        | none => exact ⟨z, none, rfl, rfl, h, o1 φ1 ψ1 H1 _ (Ext.refl _ _ _) S1 (.bl _)⟩
        | some d => obtain ⟨u, w', h1, _⟩ := h; exact ⟨z, some u, rfl, rfl, h1, o1 φ1 ψ1 H1 _ (Ext.refl _ _ _) S1 (.bl _)⟩
      · exact o1.elim
    · exact o1.elim⟩
theorem ix_kd {es : Array DictEntry} {n : Nat} {d : Addr} (D : KDict X.K X.w d es n) : IxR X (fun x y H Q => ∃ (z : Str) (u0 : Value) (v0 : V), x = .ref d ∧ y = .str z ∧ PySem.W.nsIn X.K d z = some (some u0) ∧ RelV v0 u0 ∧ Q v0 H) := by
  intro value slice pins s σ H x y v u Q I rx ry h hs
  have h0 := h
  obtain ⟨z, u0, v0, rfl, rfl, e, r, q⟩ := h
  obtain rfl : v = Value.ref d := rx
  have hT := kd_type D I
  unfold subscriptTail
  refine wpAny_bind ?_
  rw [getitemInPython_of_ne hT.not_modules]
  refine wpAny_bind (wpAny_specialOf hT PySem.F.slot_dict_getitem.lookup ?_)
  have fin : wpAny (model X.prog X.w) X.A (subscripted slice false (.ref d) u) (fun r s₃ => wpAny (model X.prog X.w) X.A (letTemporaryGo value (.ref d) r >>= fun _ => pure r) (EP X pins σ Q) X.xe s₃) X.xe s := by
    rw [hs]
    exact wpAny_operating (thn (op_item_kd D pins s σ H (.ref d) (.str z) (.ref d) u Q I rfl ry h0) fun _ s3 hq => wpAny_bind (wpAny_letTemporaryGo (wpAny_pure hq)))
  first
    | exact wpAny_pure (wpAny_bind fin)
    | exact wpAny_bind (wpAny_pure (wpAny_bind fin))
    | exact wpAny_bind fin
theorem RepD.free {K : PySem.W.Frag} {H : Hp} {φ ψ : List Addr} {d : D} {v : V} (h : ∀ H, RepD K H [] [] d v) : RepD K H φ ψ d v := (h H).mono (Same.refl _) (fun _ _ e => by simp at e) fun _ _ e => by simp at e
theorem ped_tab (t : Tb X.K X.w X.mg x tb) (hg : Gl X x) (hi : PED X W i fi) (hd : (x == ("__debug__" : Str)) = false := by decide) (hs : PlainIx i := by intro _ _; rfl) : PED X W (.Subscript (.Name x p) i pos) (fun s => (fi s).bind (tabAt tb)) := by
  obtain ⟨es, n, kd⟩ := t.kd
  exact PE.imp (pe_ix (ix_kd kd) (pe_glob (v := .ref (He.ga X.K x)) hg t.mgx rfl hd) hi hs) fun σ H Q ⟨H0, φ0, φ, ψ, s, S, o⟩ => ⟨H0, φ0, φ, ψ, s, S, OutE.bE o fun y s1 φ1 ψ1 H1 v e1 S1 r1 o1 => by
    unfold tabAt at o1
    split at o1
    · rename_i z
      have r' : Dp [] (Fz H1) v (.str z) := r1
      cases r'
      split at o1
      · rename_i d e
        obtain ⟨u, w', h1, h2, h3⟩ := t.has _ (tbGet_mem e)
        exact ⟨z, u, w', rfl, rfl, h1, h2, o1 φ1 ψ1 H1 w' (Ext.refl _ _ _) S1 (RepD.free h3)⟩
      · exact o1.elim
    · exact o1.elim⟩
end
/-! ### the call of a value that is a name of the module -/
abbrev CalT := List (Str × Nat × FF)
def ctGet (tb : CalT) (z : Str) : Option (Nat × FF) := match tb with
  | [] => none
  | (y, d) :: r => if y = z then some d else ctGet r z
theorem ctGet_mem {z : Str} {o : Nat × FF} : ∀ {tb : CalT}, ctGet tb z = some o → (z, o) ∈ tb
  | [], e => by cases e
  | (y, d) :: r, e => by
    unfold ctGet at e
    split at e
    · rename_i h
      cases e; subst h
      exact List.mem_cons_self ..
    · exact List.mem_cons_of_mem _ (ctGet_mem e)
def callT (tb : CalT) (fa : FA) (g : D) (s : ST) : Out D := match g with
  | .glob z => match ctGet tb z with
    | some nf => (fa s).bind fun ds s2 => callD nf.1 nf.2 ds s2
    | none => .no
  | _ => .no
def eCallT (tb : CalT) (fe : FE) (fa : FA) : FE := fun s => (fe s).bind (callT tb fa)
section
variable {X : Cx} {W : WX} {fe : FE} {fa : FA} {fx e : Expr} {es : List Expr} {pos p : Pos} {k j : Nat} {tb : CalT}
theorem ped_callT (c : ∀ q ∈ tb, CalG X.prog X.w X.K X.mg X.base k q.1 q.2.1 q.2.2) (hgm : ∀ q ∈ tb, ∀ fa, X.mg q.1 = some (.ref fa) → fa = He.ga X.K q.1) (C : Ctx X j) (hk : k ≤ j) (tk : Takes X W) (hf : PED X W fx fe) (ha : PAD X W (e :: es) fa)
    (hc : eval (.Call fx (e :: es) [] pos) X.env = (do callWith pos (← eval fx X.env) [] (backTo pos (starEach (e :: es) X.env)) (backToKw pos (keywordEach [] X.env))) := by rfl)
    (he : starEach (e :: es) X.env = (false, eval e X.env) :: starEach es X.env := by rfl) (hpl : (backTo pos (starEach es X.env)).any (·.1) = false := by rfl) : PED X W (.Call fx (e :: es) [] pos) (eCallT tb fe fa) := by
  refine ⟨fun pins s σ H Q I h => ?_⟩
  obtain ⟨H0, φ0, φ, ψ, s0, S, o⟩ := h
  refine Call_ (he := hc) (thn (hf.run pins s σ H (fun v H1 => ∃ q ∈ tb, v = .ref (He.ga X.K q.1) ∧ tA X.K W fa σ H1 fun vs H2 => spF X.K q.2.1 q.2.2 (vs ++ []) H2 Q (WE W σ)) I ⟨H0, φ0, φ, ψ, s0, S, OutE.bE o fun g s1 φ1 ψ1 H1 v e1 S1 r1 o1 => ?_⟩) fun u s1 ⟨v, H1, I1, rv, q, hq, ev, h1⟩ => ?_)
  · unfold callT at o1
    split at o1
    · rename_i z
      split at o1
      · rename_i nf ez
        exact ⟨(z, nf), ctGet_mem ez, r1, H0, φ0, φ1, ψ1, s1, S1, OutE.bA o1 fun ds s2 φ2 ψ2 H2 vs e2 S2 r2 o2 => callD_ok S2 r2 o2⟩
      · exact o1.elim
    · exact o1.elim
  · subst ev
    obtain rfl : u = Value.ref (He.ga X.K q.1) := rv
    obtain ⟨f, fd, ps, F, hm, kp, b⟩ := (c q hq).ex
    have ef := hgm q hq f hm
    subst ef
    refine PySem.W.callWith_K (h₀ := X.base) I1.ok.mod.kin kp (thn (ha.run pos pins s1 σ H1 _ I1 h1) fun us s2 ⟨vs, H2, I2, r, q2⟩ => ⟨I2.kIn, ?_⟩) he hpl
    exact run_fnG F (C.rm.mono hk) C.gd b .nil tk I2 r q2
end
end DL

set_option Elab.async false
set_option linter.all false
set_option maxRecDepth 100000
set_option maxHeartbeats 2000000
namespace DL
open PySem PySem.Spec PyProof.Rows L2
/-! ### a, b = x, y -/
def sPar (i j : Nat) (fa : FA) : FSt := fun s => (fa s).bind fun ds s1 => match ds with
  | [x, y] => .ok .nx { s1 with S := (s1.S.set i (some x)).set j (some y) }
  | _ => .no
def sPar3 (i j l : Nat) (fa : FA) : FSt := fun s => (fa s).bind fun ds s1 => match ds with
  | [x, y, z] => .ok .nx { s1 with S := ((s1.S.set i (some x)).set j (some y)).set l (some z) }
  | _ => .no
section
variable {X : Cx} {W : WX} {fa fs : FA} {fo fe : FE} {o e : Expr} {apos cpos : Pos}
theorem psd_par {i j : Nat} {x y : Str} {a b : Expr} {px py pt pos : Pos} {kt k2 pt2} (hc : X.calm = true) (hN : X.N.Nodup) (hi : X.N[i]? = some x) (hj : X.N[j]? = some y) (hij : i ≠ j)
    (hx : X.env.scope.names.lookup x = some .local) (hy : X.env.scope.names.lookup y = some .local) (ha : PAD X W [a, b] fa)
    (hw : swappedStores [.Tuple [.Name x px, .Name y py] kt pt] (.Tuple [a, b] k2 pt2) X.env = pure (some [x, y]))
    (hs : swapsWithSole [.Tuple [.Name x px, .Name y py] kt pt] (.Tuple [a, b] k2 pt2) pos.line X.env = pure false := by rfl) : PSD X W (.Assign [.Tuple [.Name x px, .Name y py] kt pt] (.Tuple [a, b] k2 pt2) pos) (sPar i j fa) :=
  PS.imp (ps_par hc hN hi hj hij hx hy ha hw hs) fun D' σ H ⟨H0, φ0, φ, ψ, s, S, o⟩ => ⟨H0, φ0, φ, ψ, s, S, OutS.bA o fun ds s1 φ1 ψ1 H1 vs e1 S1 r1 o1 => by
    split at o1
    · cases r1 with
      | cons r1 r2 =>
        cases r2 with
        | cons r2 r3 =>
          cases r3
          exact ⟨_, _, rfl, o1 φ1 ψ1 H1 _ (Ext.refl _ _ _) ((S1.setS r1).setS r2)⟩
    · exact o1.elim⟩
theorem psd_par3 {i j l : Nat} {x y z : Str} {a b c : Expr} {px py pz pt pos : Pos} {kt k2 pt2} (hc : X.calm = true) (hN : X.N.Nodup) (hi : X.N[i]? = some x) (hj : X.N[j]? = some y) (hl : X.N[l]? = some z) (hij : i ≠ j) (hil : i ≠ l) (hjl : j ≠ l)
    (hx : X.env.scope.names.lookup x = some .local) (hy : X.env.scope.names.lookup y = some .local) (hz : X.env.scope.names.lookup z = some .local) (ha : PAD X W [a, b, c] fa)
    (hw : swappedStores [.Tuple [.Name x px, .Name y py, .Name z pz] kt pt] (.Tuple [a, b, c] k2 pt2) X.env = pure (some [x, y, z]))
    (hs : swapsWithSole [.Tuple [.Name x px, .Name y py, .Name z pz] kt pt] (.Tuple [a, b, c] k2 pt2) pos.line X.env = pure false := by rfl) : PSD X W (.Assign [.Tuple [.Name x px, .Name y py, .Name z pz] kt pt] (.Tuple [a, b, c] k2 pt2) pos) (sPar3 i j l fa) :=
  PS.imp (ps_par3 hc hN hi hj hl hij hil hjl hx hy hz ha hw hs) fun D' σ H ⟨H0, φ0, φ, ψ, s, S, o⟩ => ⟨H0, φ0, φ, ψ, s, S, OutS.bA o fun ds s1 φ1 ψ1 H1 vs e1 S1 r1 o1 => by
    split at o1
    · cases r1 with
      | cons r1 r2 =>
        cases r2 with
        | cons r2 r3 =>
          cases r3 with
          | cons r3 r4 =>
            cases r4
            exact ⟨_, _, _, rfl, o1 φ1 ψ1 H1 _ (Ext.refl _ _ _) (((S1.setS r1).setS r2).setS r3)⟩
    · exact o1.elim⟩
/-! ### a pen is let go -/
def unlift {κ : Type} : List (κ × D) → Option (List (κ × PyData))
  | [] => some []
  | (k, .py p) :: r => (unlift r).map ((k, p) :: ·)
  | _ :: _ => none
def toPen (x : D) (s : ST) : Out D := match x with
  | .obj n => match s.G[n]? with
    | some (.dK kvs) => match unlift kvs with
      | some ps => if penOk ps = true then .ok (.obj n) { s with G := s.G.set n .pen } else .no
      | none => .no
    | _ => .no
  | _ => .no
theorem unlift_rel {K : PySem.W.Frag} {H : Hp} {φ : List Addr} {κ : Type} : ∀ {kvs : List (κ × D)} {ps : List (κ × PyData)} {vvs : List (κ × V)}, unlift kvs = some ps → Paired (fun (p : κ × D) (q : κ × V) => p.1 = q.1 ∧ RepD K H φ [] p.2 q.2) kvs vvs → Paired (fun (p : κ × PyData) (q : κ × V) => p.1 = q.1 ∧ Dp [] (Fz H) q.2 p.2) ps vvs
  | [], _, _, e, h => by cases h; cases e; exact .nil
  | (k, .py p) :: r, _, _, e, h => by
    cases h with
    | cons h1 h2 =>
      obtain ⟨qs, e1, e2⟩ := Option.map_eq_some_iff.mp e
      subst e2
      exact .cons h1 (unlift_rel e1 h2)
  | (_, .obj _) :: _, _, _, e, _ => by cases e
  | (_, .glob _) :: _, _, _, e, _ => by cases e
  | (_, .loc _) :: _, _, _, e, _ => by cases e
  | (_, .scr _) :: _, _, _, e, _ => by cases e
/-- a shared object told otherwise -/
theorem SimG.reG {K : PySem.W.Frag} {H : Hp} {φ : List Addr} {G : List GO} (g : SimG K φ H G) {n : Nat} {o : GO} (h : ∀ a, φ[n]? = some a → RepG K H φ a o) : SimG K φ H (G.set n o) := ⟨by simp [g.len], g.nd, fun m b o' h1 h2 => by
  by_cases hm : m = n
  · subst hm
    have hl : m < G.length := by
      have := (List.getElem?_eq_some_iff.mp h2).1
      simpa using this
    rw [List.getElem?_set_self hl] at h2
    cases h2
    exact h b h1
  · rw [List.getElem?_set_ne (Ne.symm hm)] at h2
    exact g.at_ m b o' h1 h2⟩
theorem Sim.reG {K : PySem.W.Frag} {H0 H : Hp} {φ0 φ ψ : List Addr} {s : ST} {σ : L2.St} (S : Sim K H0 φ0 φ ψ H s σ) {n : Nat} {o : GO} (h : ∀ a, φ[n]? = some a → RepG K H φ a o) : Sim K H0 φ0 φ ψ H { s with G := s.G.set n o } σ := { S with g := S.g.reG h }
def ePen (f : FE) : FE := fun s => (f s).bind toPen
theorem PE.ofOut {f g : FE} (h : PED X W e f) (k : ∀ {K : PySem.W.Frag} {H0 H : Hp} {φ0 φ ψ : List Addr} {s : ST} {σ : L2.St} {Q : VK}, Sim K H0 φ0 φ ψ H s σ → OutE K W H0 φ0 φ ψ H σ Q (g s) → OutE K W H0 φ0 φ ψ H σ Q (f s)) : PED X W e g :=
  PE.imp h fun σ H Q ⟨H0, φ0, φ, ψ, s, S, o⟩ => ⟨H0, φ0, φ, ψ, s, S, k S o⟩
theorem ped_pen (h : PED X W e fe) : PED X W e (ePen fe) := PE.ofOut h fun S o => OutE.bE o fun x s1 φ1 ψ1 H1 v e1 S1 r1 o1 => by
  unfold toPen at o1
  split at o1
  · rename_i n
    split at o1
    · rename_i kvs el
      split at o1
      · rename_i ps eu
        split at o1
        · rename_i hp
          exact o1 φ1 ψ1 H1 v (Ext.refl _ _ _) (S1.reG fun a ha => by
            obtain ⟨vvs, h1, h2⟩ := S1.g.at_ n a _ ha el
            exact ⟨ps, hp, vvs, h1, unlift_rel eu h2⟩) r1
        · exact o1.elim
      · exact o1.elim
    · exact o1.elim
  · exact o1.elim
end
end DL

set_option Elab.async false
set_option linter.all false
set_option maxRecDepth 100000
set_option maxHeartbeats 2000000
namespace DL
open PySem PySem.Spec PyProof.Rows L2
/-! ### tuple(l): a tuple known to its object; its methods index, count -/
def flatP (p : PyData) : Bool := (keyOf p).isSome
theorem flat_same {K : PySem.W.Frag} {H : Hp} : ∀ {ps : List PyData} {vs : List V}, DpAll K H vs ps → vs.all flatK = ps.all flatP
  | [], _, h => by cases h; rfl
  | p :: ps, _, h => by
    cases h with
    | cons h1 h2 =>
      rw [List.all_cons, List.all_cons, flat_same h2]
      cases h1 <;> rfl
section
variable {X : Cx} {W : WX} {a e o : Expr} {es : List Expr} {fa fs : FA} {fe fo : FE} {p pos apos cpos : Pos}
theorem call_tuple_k : CallR X (.type "tuple") (fun xs H Q => ∃ p ys, xs = [.ref p] ∧ SqL X.K H p ys ∧ ∀ l o, H l = none → o.dict = none → Q (.ref l) (upd H l (.frz o (.tup ys)))) := by
  intro pins s σ H xs us Q I r h
  obtain ⟨p, ys, rfl, hq, q⟩ := h
  rw [Vals.ref1 r]
  obtain ⟨its, r', pl, hz⟩ := I.list hq
  have hlen := r'.length
  refine call_tuple_list pl.isList (fun h' kp => ?_) (by simp only [List.size_toArray] <;> omega)
  have I1 : Inv X pins σ H { s with heap := h' } := I.kept (t' := s.toks) kp
  have I2 : Inv X pins σ (upd H h'.objs.size (.frz { cls := .type "tuple", data := .seq its.toArray } (.tup ys))) { s with heap := h'.push { cls := .type "tuple", data := .seq its.toArray } } :=
    I1.laid (t' := s.toks) (fun b o e => Heap.get?_push_of_some _ e) (Nat.le_refl _) (show ObjOk X.prog X.w _ _ _ (.frz _ (.tup ys)) from ⟨Heap.get?_push_size _ rfl, hz, its, r', IsTup.new _ _⟩)
  exact ⟨.ref h'.objs.size, _, I2, rfl, q _ _ (I1.hok.fresh (Nat.le_refl _)) rfl⟩
def tupK (ds : List D) (s : ST) : Out D := match ds with
  | [x] => match rd s x with
    | some (.list ps) => if ps.all flatP = true then .ok (.py (.tuple ps)) s else .ok (.loc s.L.length) { s with L := s.L ++ [.ktup ps] }
    | _ => .no
  | _ => .no
def eTupK (fa : FA) : FE := fun s => (fa s).bind tupK
theorem call_tuple_kk : CallR X (.type "tuple") (fun xs H Q => (∃ p ys, xs = [.ref p] ∧ SqL X.K H p ys ∧ ∀ l o, H l = none → o.dict = none → Q (.ref l) (upd H l (.frz o (.tup ys)))) ∨
    ∃ p ys, xs = [.ref p] ∧ SqL X.K H p ys ∧ ∀ l, H l = none → Q (.ref l) (upd H l (.tup ys))) := by
  intro pins s σ H xs us Q I r h
  rcases h with h | ⟨p, ys, e, hq, q⟩
  · exact call_tuple_k pins s σ H xs us Q I r h
  · exact call_tuple_of pins s σ H xs us Q I r ⟨p, ys, e, .inl ⟨hq, q⟩⟩
theorem ped_tupK (hg : Gl X "tuple") (hm : X.mg "tuple" = none) (ha : PAD X W [e] fs) (he : starEach [e] X.env = (false, eval e X.env) :: starEach [] X.env := by rfl) (hpl : (backTo pos (starEach [] X.env)).any (·.1) = false := by rfl) :
    PED X W (.Call (.Name "tuple" p) [e] [] pos) (eTupK fs) :=
  PE.imp (pe_callTy call_tuple_kk hg hm boot_tuple ha (by decide) (by decide) he hpl) fun σ H Q ⟨H0, φ0, φ, ψ, s, S, o⟩ => ⟨H0, φ0, φ, ψ, s, S, OutE.bA o fun ds s1 φ1 ψ1 H1 vs e1 S1 r1 o1 => by
    unfold tupK at o1
    split at o1
    · rename_i x
      cases r1 with
      | cons r1 r2 =>
        cases r2
        split at o1
        · rename_i ps er
          obtain ⟨ad, us, rfl, hA, da⟩ := rd_ok S1 r1 er
          split at o1
          · refine .inr ⟨ad, us, rfl, hA, fun l hl => ?_⟩
            have g : Same H1 (upd H1 l (.tup us)) := grow_new hl
            exact o1 φ1 ψ1 _ _ (Ext.grow g) (S1.grow g) (.tup (.inl (.inl (Fz_tup upd_same))) (dpAll_mono (FS.same g) _ _ da))
          · rename_i hf
            refine .inl ⟨ad, us, rfl, hA, fun l ob hl hd => ?_⟩
            have g : Same H1 (upd H1 l (.frz ob (.tup us))) := grow_new hl
            refine o1 φ1 _ _ _ (Ext.newL hl) (S1.newL hl fun H' e => ?_) ⟨l, newL_val S1, rfl⟩
            subst e
            exact ⟨ob, us, upd_same, ⟨hd, by rw [flat_same da]; simpa using hf⟩, dpAll_mono (FS.same g) _ _ da⟩
        · exact o1.elim
    · exact o1.elim⟩
/-- the method index of a known tuple -/
def ktAt (x : D) (s : ST) : Option (List PyData) := match x with
  | .loc n => match s.L[n]? with
    | some (.ktup ds) => some ds
    | _ => none
  | _ => none
def place (ds : List PyData) (p : PyData) : Nat → Option Nat := fun n => match ds with
  | [] => none
  | d :: r => if PyData.eqv d p = true then some n else place r p (n + 1)
theorem place_ok {p : PyData} : ∀ {ds : List PyData} {n j : Nat}, place ds p n = some j → ∃ i, j = n + i ∧ PySem.SeqAt.dataPlace ds p = some i
  | d :: r, n, j, e => by
    unfold place at e
    unfold PySem.SeqAt.dataPlace
    rw [List.findIdx?_cons]
    split at e
    · rename_i h
      cases e
      rw [h]
      exact ⟨0, rfl, rfl⟩
    · rename_i h
      obtain ⟨i, e1, e2⟩ := place_ok e
      have h' : PyData.eqv d p = false := by simpa using h
      rw [h']
      refine ⟨i + 1, by omega, ?_⟩
      show Option.map (fun i => i + 1) (PySem.SeqAt.dataPlace r p) = _
      rw [e2]; rfl
def mIdx (ds : List PyData) (y : List D) (s : ST) : Out D := match y with
  | [z] => match rd s z with
    | some p => if p.depth ≤ 64 then match place ds p 0 with
      | some j => .ok (.py (.int (j : Nat))) s
      | none => .no
      else .no
    | none => .no
  | _ => .no
def eIdx (fo : FE) (fa : FA) : FE := fun s => (fo s).bind fun x s1 => match ktAt x s1 with
  | some ds => (fa s1).bind fun ys s2 => mIdx ds ys s2
  | none => .no
def tKt (to : TE) (t : TA) (r : Addr → List V → Hp → VK → Prop) : TE := fun σ H Q => to σ H fun x H1 => ∃ a o vs, x = .ref a ∧ H1 a = some (.frz o (.tup vs)) ∧ o.dict = none ∧ t σ H1 fun xs H2 => r a xs H2 Q
def rIdx (K : PySem.W.Frag) : Addr → List V → Hp → VK → Prop := fun a xs H Q => ∃ o vs ds v d j, xs = [v] ∧ H a = some (.frz o (.tup vs)) ∧ DpAll [] (Fz H) vs ds ∧ DpT K H v d ∧ d.depth ≤ 64 ∧ PySem.SeqAt.dataPlace ds d = some j ∧ Q (.int (j : Nat)) H
theorem pe_idx {to : TE} {t : TA} (hu : X.A.units + 70 < cLine) (ho : PE X o to) (ha : PA X [e] t) (hbase : attributeBase o "index" X.env (eval o X.env) = eval o X.env := by rfl)
    (hfew : ((backTo cpos (starEach [e] X.env)).all (fun x => !x.1) && (backToKw cpos (keywordEach [] X.env)).all (fun x => x.1.isSome)
      && decide (([e] : List Expr).length + ([] : List Keyword).length + (if ([] : List Keyword).isEmpty then 0 else 1) < 30)) = true := by rfl)
    (hline : (apos.endLine == cpos.line) = true := by rfl) (hs : starEach [e] X.env = (false, eval e X.env) :: starEach [] X.env := by rfl) (hplain : (backTo cpos (starEach [] X.env)).any (·.1) = false := by rfl) :
    PE X (.Call (.Attribute o "index" apos) [e] [] cpos) (tKt to t (rIdx X.K)) := by
  refine ⟨fun pins s σ H Q I h => ?_⟩
  refine wpAny_Call_method_late hbase hfew hline rfl (thn (ho.run pins s σ H _ I h) fun v s1 ⟨x, H1, I1, r1, a, ob, vs, ex, eH, hd, q1⟩ => ?_)
  subst ex
  obtain rfl : v = Value.ref a := r1
  obtain ⟨ho1, _, _, _, ob', ho2, hc, _⟩ := I1.hok a _ eH
  rw [ho1] at ho2; cases ho2
  refine ⟨"tuple", _, PySem.F.plainAttrs_tuple, PySem.F.slot_tuple_index, PySem.F.type_tuple_index, ⟨_, ho1, hc⟩, fun b e' => by cases e'; exact ⟨_, ho1, hd⟩, ?_⟩
  have hA := ha.run cpos pins s1 σ H1 _ I1 q1
  rw [hs] at hA ⊢
  refine Calls.callWith_builtin (by show (false || (backTo cpos (starEach [] X.env)).any (·.1)) = false; rw [hplain] <;> rfl) (Calls.evalArgs_plain ?_)
  refine thn hA fun us s2 ⟨xs, H2, I2, r2, o2, vs2, ds, w, d, j, exs, eH2, da, dw, hdp, hp, q2⟩ => ?_
  subst exs
  obtain ⟨u, rfl, ru⟩ := r2.one
  obtain ⟨ho3, hz, its, rv, ⟨⟨cls, dd, dt, sl⟩, ho4, hc4, n, hd4⟩⟩ := I2.hok a _ eH2
  simp only at hc4 hd4
  subst hc4 hd4
  obtain ⟨as, rs⟩ := Dp.readsAll I2 ds vs2 its (dpAll_up _ _ da) rv
  obtain ⟨bs, rx⟩ := reads_of I2 dw ru
  have rs' : ReadsAll s2.heap its.toArray.toList ds as := by simpa using rs
  have hxs : PyData.plainAll ds = true := dpAll_plain _ _ da
  have hdd : d.plain = true := DpT.plain dw
  obtain ⟨hj, hit, hno⟩ := PySem.SeqAt.hit_at rs' hxs hp
  exact call_meets PySem.F.slot_tuple_index ⟨_, ho4, rfl⟩ PySem.F.entry_tuple_index (PySem.F.args_tuple_index_2 _ _) (TI.tuple_indexAt a its.toArray n dd sl u (fun y => PyData.eqv (SeqAt.readOf s2.heap y) d) j hj hit hno)
    ⟨ho4, fun y hy => PySem.SeqAt.items_plain rs' rx hxs hdd (by show X.A.units + 1 + min (PyData.depthAll ds) d.depth < cLine; have := Nat.min_le_right (PyData.depthAll ds) d.depth; omega) y hy, ⟨.int (j : Nat), H2, I2.tok _, ⟨_, rfl⟩, q2⟩⟩
end
end DL
namespace DL
open PySem PySem.Spec PyProof.Rows L2
section
variable {X : Cx} {W : WX} {e o : Expr} {fs : FA} {fo : FE} {apos cpos : Pos}
theorem ped_idx (hu : X.A.units + 70 < cLine) (ho : PED X W o fo) (ha : PAD X W [e] fs) (hbase : attributeBase o "index" X.env (eval o X.env) = eval o X.env := by rfl)
    (hfew : ((backTo cpos (starEach [e] X.env)).all (fun x => !x.1) && (backToKw cpos (keywordEach [] X.env)).all (fun x => x.1.isSome)
      && decide (([e] : List Expr).length + ([] : List Keyword).length + (if ([] : List Keyword).isEmpty then 0 else 1) < 30)) = true := by rfl)
    (hline : (apos.endLine == cpos.line) = true := by rfl) (hs : starEach [e] X.env = (false, eval e X.env) :: starEach [] X.env := by rfl) (hplain : (backTo cpos (starEach [] X.env)).any (·.1) = false := by rfl) :
    PED X W (.Call (.Attribute o "index" apos) [e] [] cpos) (eIdx fo fs) :=
  PE.imp (pe_idx hu ho ha hbase hfew hline hs hplain) fun σ H Q ⟨H0, φ0, φ, ψ, s, S, o⟩ => ⟨H0, φ0, φ, ψ, s, S, OutE.bE o fun x s1 φ1 ψ1 H1 v e1 S1 r1 o1 => by
    split at o1
    · rename_i ds ek
      unfold ktAt at ek
      split at ek
      · rename_i n
        split at ek
        · rename_i ds' el
          cases ek
          obtain ⟨a, ha, rfl⟩ := r1
          obtain ⟨ob, vs, h1, ⟨h2, h3⟩, h4⟩ := S1.l n a _ ha el
          have hz : Fz H1 a = some (.frz ob (.tup vs)) := Fz_ktup h1 h3
          refine ⟨a, ob, vs, rfl, h1, h2, H0, φ0, φ1, ψ1, s1, S1, OutE.bA o1 fun ys s2 φ2 ψ2 H2 us e2 S2 r2 o2 => ?_⟩
          unfold mIdx at o2
          split at o2
          · rename_i z
            split at o2
            · rename_i p ep
              split at o2
              · rename_i hd
                split at o2
                · rename_i j ej
                  cases r2 with
                  | cons r2 r3 =>
                    cases r3
                    obtain ⟨i, e3, e4⟩ := place_ok ej
                    have e5 : j = i := by omega
                    subst e5
                    exact ⟨ob, vs, ds, _, p, j, rfl, Fz_sub (e2.f a _ hz), dpAll_mono e2.f _ _ h4, rd_ok S2 r2 ep, hd, e4, o2 φ2 ψ2 H2 _ (Ext.refl _ _ _) S2 (.int _)⟩
                · exact o2.elim
              · exact o2.elim
            · exact o2.elim
          · exact o2.elim
        · cases ek
      · cases ek
    · exact o1.elim⟩
end
end DL

set_option Elab.async false
set_option linter.all false
set_option maxRecDepth 100000
set_option maxHeartbeats 2000000
namespace DL
open PySem PySem.Spec PyProof.Rows L2
def eTab (tb : TabD) (fi : FE) : FE := fun s => (fi s).bind (tabAt tb)
def eTabIn (tb : TabD) (neg : Bool) (fi : FE) : FE := fun s => (fi s).bind (tabIn tb neg)
theorem Ctx.hu70 {X : Cx} {n : Nat} (C : Ctx X n) : X.A.units + 70 < cLine := by have := C.rm.un; omega
end DL

set_option Elab.async false
set_option linter.all false
set_option maxRecDepth 100000
set_option maxHeartbeats 2000000
namespace DL
open PySem PySem.Spec PyProof.Rows L2
/-! ### a law's pen -/
def mPen : FSt := sSeq (sAsg (.one 1) (eC (.int 0))) (sSeq (sFor (iSeq (eVar 0)) (.one 2) (sAsg (.one 1) (eBin gMod (eB1 gInt (aCons (eBin gAdd (eBin gMul (eVar 1) (eC (.int 173))) (eVar 2)) (aNil))) (eC (.int 1000004249))))) (sRet (eDisp [(eC (.str "cells"), eB1 gList (aCons (eVar 0) (aNil))), (eC (.str "at"), eC (.int 0)), (eC (.str "digits"), eC (.int 0)), (eC (.str "count"), eC (.int 0)), (eC (.str "fold"), eVar 1)])))
def fPen : FF := fnRun 3 mPen
def mDraw : FSt := sSeq (sDSet (eVar 0) (eC (.str "count")) (eBin gAdd (e2 ixD (eVar 0) (eC (.str "count"))) (eC (.int 1)))) (sSeq (sIf (tAndD (toB (eBin gEq (e2 ixD (eVar 0) (eC (.str "digits"))) (eC (.int 0)))) (toB (eBin gLt (e2 ixD (eVar 0) (eC (.str "at"))) (eB1 gLen (aCons (e2 ixD (eVar 0) (eC (.str "cells"))) (aNil)))))) (sSeq (sAsg (.one 2) (e2 ixD (e2 ixD (eVar 0) (eC (.str "cells"))) (e2 ixD (eVar 0) (eC (.str "at"))))) (sSeq (sDSet (eVar 0) (eC (.str "at")) (eBin gAdd (e2 ixD (eVar 0) (eC (.str "at"))) (eC (.int 1)))) (sIf (toB (eBin gGe (eVar 2) (eBin gPow (eC (.int 10)) (eC (.int 18))))) (sDSet (eVar 0) (eC (.str "digits")) (eBin gSub (eVar 2) (eBin gPow (eC (.int 10)) (eC (.int 18))))) (sDSet (eVar 0) (eC (.str "fold")) (eBin gMod (eB1 gInt (aCons (eBin gAdd (eBin gMul (e2 ixD (eVar 0) (eC (.str "fold"))) (eC (.int 60091))) (eVar 2)) (aNil))) (eC (.int 2147483477))))))) (sNx)) (sSeq (sIf (toB (eBin gGt (e2 ixD (eVar 0) (eC (.str "digits"))) (eC (.int 0)))) (sSeq (sAsg (.one 3) (eBin gMod (eB1 gInt (aCons (e2 ixD (eVar 0) (eC (.str "digits"))) (aNil))) (eVar 1))) (sSeq (sDSet (eVar 0) (eC (.str "digits")) (eBin gFdiv (e2 ixD (eVar 0) (eC (.str "digits"))) (eVar 1))) (sRet (eVar 3)))) (sNx)) (sSeq (sDSet (eVar 0) (eC (.str "fold")) (eBin gMod (eB1 gInt (aCons (eBin gAdd (eBin gAdd (eBin gMul (e2 ixD (eVar 0) (eC (.str "fold"))) (eC (.int 48271))) (e2 ixD (eVar 0) (eC (.str "count")))) (eC (.int 37))) (aNil))) (eC (.int 2147483477)))) (sRet (eBin gMod (eB1 gInt (aCons (eBin gFdiv (e2 ixD (eVar 0) (eC (.str "fold"))) (eC (.int 107))) (aNil))) (eVar 1))))))
def fDraw : FF := fnRun 4 mDraw
def penD (cs : List PyData) (i dg ct fo : Int) : List (Key × PyData) := [(.inr "cells", .list cs), (.inr "at", .int i), (.inr "digits", .int dg), (.inr "count", .int ct), (.inr "fold", .int fo)]
def penG (cs : List PyData) (i dg ct fo : Int) : GO := .dK (lift (penD cs i dg ct fo))
def sd (m : Int) (x y : Option D) (G : List GO) : ST := ⟨[some (.obj 0), some (.py (.int m)), x, y], [], G⟩
section
variable {m : Int} {x y : Option D} {cs : List PyData} {i dg ct fo : Int} {r : List GO}
theorem rd_ct : e2 ixD (eVar 0) (eC (.str "count")) (sd m x y (penG cs i dg ct fo :: r)) = .ok (.py (.int ct)) (sd m x y (penG cs i dg ct fo :: r)) := rfl
theorem rd_dg : e2 ixD (eVar 0) (eC (.str "digits")) (sd m x y (penG cs i dg ct fo :: r)) = .ok (.py (.int dg)) (sd m x y (penG cs i dg ct fo :: r)) := rfl
theorem rd_at : e2 ixD (eVar 0) (eC (.str "at")) (sd m x y (penG cs i dg ct fo :: r)) = .ok (.py (.int i)) (sd m x y (penG cs i dg ct fo :: r)) := rfl
theorem rd_fo : e2 ixD (eVar 0) (eC (.str "fold")) (sd m x y (penG cs i dg ct fo :: r)) = .ok (.py (.int fo)) (sd m x y (penG cs i dg ct fo :: r)) := rfl
theorem rd_cs : e2 ixD (eVar 0) (eC (.str "cells")) (sd m x y (penG cs i dg ct fo :: r)) = .ok (.py (.list cs)) (sd m x y (penG cs i dg ct fo :: r)) := rfl
theorem st_ct {f : FE} {s' z} (h : f s' = .ok (.py (.int z)) (sd m x y (penG cs i dg ct fo :: r))) : sDSet (eVar 0) (eC (.str "count")) f s' = .ok .nx (sd m x y (penG cs i dg z fo :: r)) := by
  unfold sDSet; rw [h]; rfl
theorem st_dg {f : FE} {s' z} (h : f s' = .ok (.py (.int z)) (sd m x y (penG cs i dg ct fo :: r))) : sDSet (eVar 0) (eC (.str "digits")) f s' = .ok .nx (sd m x y (penG cs i z ct fo :: r)) := by
  unfold sDSet; rw [h]; rfl
theorem st_at {f : FE} {s' z} (h : f s' = .ok (.py (.int z)) (sd m x y (penG cs i dg ct fo :: r))) : sDSet (eVar 0) (eC (.str "at")) f s' = .ok .nx (sd m x y (penG cs z dg ct fo :: r)) := by
  unfold sDSet; rw [h]; rfl
theorem st_fo {f : FE} {s' z} (h : f s' = .ok (.py (.int z)) (sd m x y (penG cs i dg ct fo :: r))) : sDSet (eVar 0) (eC (.str "fold")) f s' = .ok .nx (sd m x y (penG cs i dg ct z :: r)) := by
  unfold sDSet; rw [h]; rfl
end
end DL
namespace DL
open PySem PySem.Spec PyProof.Rows L2
section
variable {m : Int} {x y : Option D} {cs : List PyData} {i dg ct fo : Int} {r : List GO}
theorem gEq_int (a b : Int) : gEq (.int a) (.int b) = some (.bool (decide (a = b))) := by
  unfold gEq
  have e : (PyData.int a).depth ≤ 64 := show 0 ≤ 64 from Nat.zero_le _
  rw [if_pos e]
  show some (PyData.bool (a == b)) = _
  by_cases h : a = b
  · subst h; simp
  · rw [decide_eq_false h]
    simp [h]
theorem dataLt_ii (a b : Int) : PySem.W.dataLt (.int a) (.int b) = decide (a < b) := PySem.W.dataLt_int a b
theorem okLt_ii (a b : Int) : okLt (.int a) (.int b) = true := rfl
theorem gLt_int (a b : Int) : gLt (.int a) (.int b) = some (.bool (decide (a < b))) := by
  unfold gLt
  rw [if_pos (okLt_ii _ _), dataLt_ii]
theorem gGt_int (a b : Int) : gGt (.int a) (.int b) = some (.bool (decide (b < a))) := by
  unfold gGt
  rw [if_pos (okLt_ii _ _), dataLt_ii]
theorem gGe_int (a b : Int) : gGe (.int a) (.int b) = some (.bool (!decide (a < b))) := by
  unfold gGe
  rw [if_pos (okLt_ii _ _), dataLt_ii]
theorem bin_i {g : PyData → PyData → Option PyData} {fa fb : FE} {s s1 s2 : ST} {a b : PyData} {c : PyData} (h1 : fa s = .ok (.py a) s1) (h2 : fb s1 = .ok (.py b) s2) (h3 : g a b = some c) : eBin g fa fb s = .ok (.py c) s2 := by
  unfold eBin
  rw [h1]
  show (fb s1).bind _ = _
  rw [h2]
  show opt (g a b) s2 = _
  rw [h3]; rfl
theorem toB_i {f : FE} {s s1 : ST} {b : Bool} (h : f s = .ok (.py (.bool b)) s1) : toB f s = .ok b s1 := by
  unfold toB; rw [h]; rfl
theorem b1_i {g : PyData → Option PyData} {f : FE} {s s1 : ST} {a c : PyData} (h : f s = .ok (.py a) s1) (h2 : g a = some c) : eB1 g (aCons f aNil) s = .ok (.py c) s1 := by
  unfold eB1 aCons
  rw [h]
  show opt (g a) s1 = _
  rw [h2]; rfl
theorem seq_i {f g : FSt} {s s1 : ST} {o : Out Fl} (h : f s = .ok .nx s1) (h2 : g s1 = o) : sSeq f g s = o := by
  unfold sSeq; rw [h]; exact h2
theorem if_t {t : FT} {f g : FSt} {s s1 : ST} {o : Out Fl} (h : t s = .ok true s1) (h2 : f s1 = o) : sIf t f g s = o := by
  unfold sIf; rw [h]; exact h2
theorem if_f {t : FT} {f g : FSt} {s s1 : ST} {o : Out Fl} (h : t s = .ok false s1) (h2 : g s1 = o) : sIf t f g s = o := by
  unfold sIf; rw [h]; exact h2
theorem and_i {f g : FT} {s s1 s2 : ST} {a b : Bool} (h : f s = .ok a s1) (h2 : g s1 = .ok b s2) (e : s2 = s1) : tAndD f g s = .ok (a && b) s1 := by
  subst e
  unfold tAndD; rw [h]
  cases a
  · rfl
  · exact h2
theorem e2_i {h : D → D → ST → Out D} {fa fb : FE} {s s1 s2 : ST} {a b : D} {o : Out D} (h1 : fa s = .ok a s1) (h2 : fb s1 = .ok b s2) (h3 : h a b s2 = o) : e2 h fa fb s = o := by
  unfold e2; rw [h1]
  show (fb s1).bind _ = _
  rw [h2]; exact h3
theorem asg_i {t : Tg} {f : FE} {s s1 s2 : ST} {d : D} (h : f s = .ok d s1) (h2 : t.put d s1 = some s2) : sAsg t f s = .ok .nx s2 := by
  unfold sAsg; rw [h]
  show sPut t d s1 = _
  unfold sPut; rw [h2]
theorem ret_i {f : FE} {s s1 : ST} {d : D} (h : f s = .ok d s1) : sRet f s = .ok (.ret d) s1 := by
  unfold sRet; rw [h]; rfl
theorem gMod_int {a b : Int} (h : 0 < b) : gMod (.int a) (.int b) = some (.int (a.fmod b)) := by
  show (if b ≠ 0 then _ else _) = _
  rw [if_pos (by omega)]
theorem gFdiv_int {a b : Int} (h : 0 < b) (h2 : b < 1073741824) : gFdiv (.int a) (.int b) = some (.int (a.fdiv b)) := by
  show (if b ≠ 0 ∧ b.natAbs < 1073741824 then _ else _) = _
  rw [if_pos (by omega)]
theorem gMul_int {a b : Int} (h : 0 < b) (h2 : b < 1073741824) : gMul (.int a) (.int b) = some (.int (a * b)) := by
  show (if _ then _ else _) = _
  rw [if_pos (.inr ⟨by omega, by omega⟩)]
theorem ge_i {s : ST} {f : FE} {c : Int} (h : f s = .ok (.py (.int c)) s) : eBin gGe f (eBin gPow (eC (.int 10)) (eC (.int 18))) s = .ok (.py (.bool (!decide (c < 10 ^ 18)))) s :=
  bin_i h (bin_i (c := .int (10 ^ 18)) rfl rfl rfl) (gGe_int _ _)
def isI : PyData → Bool
  | .int _ => true
  | _ => false
theorem fmod_rng {a m : Int} (h : 0 < m) : 0 ≤ a.fmod m ∧ a.fmod m < m := ⟨Int.fmod_nonneg_of_pos _ h, Int.fmod_lt_of_pos _ h⟩
theorem gIx_cs {c : Int} (hi : 0 ≤ i) (hc : cs[i.toNat]? = some (.int c)) : gIx (.list cs) (.int i) = some (.int c) := by
  obtain ⟨n, rfl⟩ := Int.eq_ofNat_of_zero_le hi
  exact atI_nat hc
/-- the second half -/
theorem draw2 (hm : 0 < m) (h2 : m < 1073741824) : ∃ d dg' fo' y', (0 ≤ d ∧ d < m) ∧ (sSeq (sIf (toB (eBin gGt (e2 ixD (eVar 0) (eC (.str "digits"))) (eC (.int 0)))) (sSeq (sAsg (.one 3) (eBin gMod (eB1 gInt (aCons (e2 ixD (eVar 0) (eC (.str "digits"))) (aNil))) (eVar 1))) (sSeq (sDSet (eVar 0) (eC (.str "digits")) (eBin gFdiv (e2 ixD (eVar 0) (eC (.str "digits"))) (eVar 1))) (sRet (eVar 3)))) (sNx)) (sSeq (sDSet (eVar 0) (eC (.str "fold")) (eBin gMod (eB1 gInt (aCons (eBin gAdd (eBin gAdd (eBin gMul (e2 ixD (eVar 0) (eC (.str "fold"))) (eC (.int 48271))) (e2 ixD (eVar 0) (eC (.str "count")))) (eC (.int 37))) (aNil))) (eC (.int 2147483477)))) (sRet (eBin gMod (eB1 gInt (aCons (eBin gFdiv (e2 ixD (eVar 0) (eC (.str "fold"))) (eC (.int 107))) (aNil))) (eVar 1))))) (sd m x y (penG cs i dg ct fo :: r)) = .ok (.ret (.py (.int d))) (sd m x y' (penG cs i dg' ct fo' :: r)) := by
  have ht := toB_i (bin_i (rd_dg (m := m) (x := x) (y := y) (cs := cs) (i := i) (dg := dg) (ct := ct) (fo := fo) (r := r)) rfl (gGt_int dg 0))
  by_cases h : 0 < dg
  · refine ⟨dg.fmod m, dg.fdiv m, fo, some (.py (.int (dg.fmod m))), fmod_rng hm, ?_⟩
    rw [decide_eq_true h] at ht
    have a1 : (sAsg (.one 3) (eBin gMod (eB1 gInt (aCons (e2 ixD (eVar 0) (eC (.str "digits"))) (aNil))) (eVar 1))) (sd m x y (penG cs i dg ct fo :: r)) = .ok .nx (sd m x (some (.py (.int (dg.fmod m)))) (penG cs i dg ct fo :: r)) := asg_i (bin_i (b1_i rd_dg rfl) rfl (gMod_int hm)) rfl
    have a2 := st_dg (m := m) (x := x) (y := some (.py (.int (dg.fmod m)))) (cs := cs) (i := i) (dg := dg) (ct := ct) (fo := fo) (r := r) (bin_i (fb := eVar 1) rd_dg rfl (gFdiv_int (a := dg) hm h2))
    have a3 : sIf (toB (eBin gGt (e2 ixD (eVar 0) (eC (.str "digits"))) (eC (.int 0)))) (sSeq (sAsg (.one 3) (eBin gMod (eB1 gInt (aCons (e2 ixD (eVar 0) (eC (.str "digits"))) (aNil))) (eVar 1))) (sSeq (sDSet (eVar 0) (eC (.str "digits")) (eBin gFdiv (e2 ixD (eVar 0) (eC (.str "digits"))) (eVar 1))) (sRet (eVar 3)))) (sNx) (sd m x y (penG cs i dg ct fo :: r)) = .ok (.ret (.py (.int (dg.fmod m)))) (sd m x (some (.py (.int (dg.fmod m)))) (penG cs i (dg.fdiv m) ct fo :: r)) := if_t ht (seq_i a1 (seq_i a2 (ret_i rfl)))
    unfold sSeq at a3 ⊢
    rw [a3]; rfl
  · rw [decide_eq_false h] at ht
    refine ⟨_, dg, _, y, fmod_rng hm, seq_i (if_f ht rfl) (seq_i (st_fo (bin_i (b1_i (bin_i (bin_i (bin_i rd_fo rfl (gMul_int (by decide) (by decide))) rd_ct rfl) rfl rfl) rfl) rfl (gMod_int (by decide)))) (ret_i (bin_i (b1_i (bin_i rd_fo rfl (gFdiv_int (by decide) (by decide))) rfl) rfl (gMod_int hm))))⟩
theorem draw_ok (hc : cs.all isI = true) (hi : 0 ≤ i) (hm : 0 < m) (h2 : m < 1073741824) : ∃ d i' dg' ct' fo', (0 ≤ d ∧ d < m) ∧ 0 ≤ i' ∧ fDraw [.obj 0, .py (.int m)] (penG cs i dg ct fo :: r) = .ok (.py (.int d)) ⟨[], [], gc (r.length + 1) (penG cs i' dg' ct' fo' :: r)⟩ := by
  have fin : ∀ {x i dg ct fo d dg' fo' y'}, ∀ s0 : FSt, s0 (sd m none none (penG cs i dg ct fo :: r)) = .ok (.ret (.py (.int d))) (sd m x y' (penG cs i dg' ct fo' :: r)) → True := fun _ _ => trivial
  have go : ∃ x i' dg1 fo1, 0 ≤ i' ∧ (sIf (tAndD (toB (eBin gEq (e2 ixD (eVar 0) (eC (.str "digits"))) (eC (.int 0)))) (toB (eBin gLt (e2 ixD (eVar 0) (eC (.str "at"))) (eB1 gLen (aCons (e2 ixD (eVar 0) (eC (.str "cells"))) (aNil)))))) (sSeq (sAsg (.one 2) (e2 ixD (e2 ixD (eVar 0) (eC (.str "cells"))) (e2 ixD (eVar 0) (eC (.str "at"))))) (sSeq (sDSet (eVar 0) (eC (.str "at")) (eBin gAdd (e2 ixD (eVar 0) (eC (.str "at"))) (eC (.int 1)))) (sIf (toB (eBin gGe (eVar 2) (eBin gPow (eC (.int 10)) (eC (.int 18))))) (sDSet (eVar 0) (eC (.str "digits")) (eBin gSub (eVar 2) (eBin gPow (eC (.int 10)) (eC (.int 18))))) (sDSet (eVar 0) (eC (.str "fold")) (eBin gMod (eB1 gInt (aCons (eBin gAdd (eBin gMul (e2 ixD (eVar 0) (eC (.str "fold"))) (eC (.int 60091))) (eVar 2)) (aNil))) (eC (.int 2147483477))))))) (sNx)) (sd m none none (penG cs i dg (ct + 1) fo :: r)) = .ok .nx (sd m x none (penG cs i' dg1 (ct + 1) fo1 :: r)) := by
    have ht := and_i (toB_i (bin_i (rd_dg (m := m) (x := none) (y := none) (cs := cs) (i := i) (dg := dg) (ct := ct + 1) (fo := fo) (r := r)) (fb := eC (.int 0)) rfl (gEq_int dg 0))) (toB_i (bin_i rd_at (b1_i rd_cs (g := gLen) rfl) (gLt_int i cs.length))) rfl
    by_cases h : (decide (dg = 0) && decide (i < (cs.length : Int))) = true
    · rw [h] at ht
      rw [Bool.and_eq_true] at h
      have hl : i < (cs.length : Int) := of_decide_eq_true h.2
      have hn : i.toNat < cs.length := by omega
      have hI := List.all_eq_true.mp hc cs[i.toNat] (List.getElem_mem hn)
      obtain ⟨c, ec⟩ : ∃ c, cs[i.toNat] = .int c := by
        generalize cs[i.toNat] = q at hI
        cases q with
        | int c => exact ⟨c, rfl⟩
        | _ => cases hI
      have ec' : cs[i.toNat]? = some (.int c) := by rw [List.getElem?_eq_getElem hn, ec]
      have a1 : (sAsg (.one 2) (e2 ixD (e2 ixD (eVar 0) (eC (.str "cells"))) (e2 ixD (eVar 0) (eC (.str "at"))))) (sd m none none (penG cs i dg (ct + 1) fo :: r)) = .ok .nx (sd m (some (.py (.int c))) none (penG cs i dg (ct + 1) fo :: r)) :=
        asg_i (e2_i rd_cs rd_at (by
          show opt (gIx (.list cs) (.int i)) _ = _
          rw [gIx_cs hi ec']; rfl)) rfl
      have a2 := st_at (m := m) (x := some (.py (.int c))) (y := none) (cs := cs) (i := i) (dg := dg) (ct := ct + 1) (fo := fo) (r := r) (bin_i (fb := eC (.int 1)) rd_at rfl (c := .int (i + 1)) (g := gAdd) rfl)
      have hg := toB_i (ge_i (f := eVar 2) (c := c) (s := sd m (some (.py (.int c))) none (penG cs (i + 1) dg (ct + 1) fo :: r)) rfl)
      by_cases hb : c < 10 ^ 18
      · rw [decide_eq_true hb] at hg
        exact ⟨_, i + 1, dg, _, by omega, if_t ht (seq_i a1 (seq_i a2 (if_f hg (st_fo (bin_i (b1_i (bin_i (bin_i rd_fo rfl (gMul_int (by decide) (by decide))) rfl rfl) rfl) rfl (gMod_int (by decide)))))))⟩
      · rw [decide_eq_false hb] at hg
        exact ⟨_, i + 1, c - 10 ^ 18, fo, by omega, if_t ht (seq_i a1 (seq_i a2 (if_t hg (st_dg (bin_i (g := gSub) rfl (bin_i (c := .int (10 ^ 18)) rfl rfl rfl) rfl)))))⟩
    · rw [Bool.not_eq_true] at h
      rw [h] at ht
      exact ⟨none, i, dg, fo, hi, if_f ht rfl⟩
  obtain ⟨x, i', dg1, fo1, hi', e1⟩ := go
  obtain ⟨d, dg', fo', y', hd, e2⟩ := draw2 (m := m) (x := x) (y := none) (cs := cs) (i := i') (dg := dg1) (ct := ct + 1) (fo := fo1) (r := r) hm h2
  refine ⟨d, i', dg', ct + 1, fo', hd, hi', ?_⟩
  have e0 := st_ct (m := m) (x := none) (y := none) (cs := cs) (i := i) (dg := dg) (ct := ct) (fo := fo) (r := r) (bin_i (fb := eC (.int 1)) rd_ct rfl (c := .int (ct + 1)) (g := gAdd) rfl)
  have e := seq_i e0 (seq_i e1 e2)
  show fnEnd _ (mDraw (sd m none none (penG cs i dg ct fo :: r))) = _
  have e' : mDraw (sd m none none (penG cs i dg ct fo :: r)) = .ok (.ret (.py (.int d))) (sd m x y' (penG cs i' dg' (ct + 1) fo' :: r)) := e
  rw [e']; rfl
end
end DL

namespace DL
open PySem PySem.Spec PyProof.Rows L2
theorem gc_all (G : List GO) : gc G.length G = G := by
  unfold gc
  split
  · exact List.take_length
  · rfl
theorem unlift_lift {κ : Type} : ∀ ps : List (κ × PyData), unlift (lift ps) = some ps
  | [] => rfl
  | (k, p) :: r => by
    show (unlift (lift r)).map ((k, p) :: ·) = _
    rw [unlift_lift r]; rfl
theorem penOk_inv {kvs : List (Key × PyData)} (h : penOk kvs = true) : ∃ cs i dg ct fo, kvs = penD cs i dg ct fo ∧ 0 ≤ i ∧ cs.all isI = true := by
  unfold penOk at h
  split at h
  · rename_i k1 cs k2 i k3 dg k4 ct k5 fo
    simp only [Bool.and_eq_true, beq_iff_eq, decide_eq_true_eq] at h
    obtain ⟨⟨⟨⟨⟨⟨h1, h2⟩, h3⟩, h4⟩, h5⟩, h6⟩, h7⟩ := h
    subst h1 h2 h3 h4 h5
    refine ⟨cs, i, dg, ct, fo, rfl, h6, ?_⟩
    rw [List.all_eq_true] at h7 ⊢
    intro x hx
    have := h7 x hx
    cases x with
    | int _ => rfl
    | _ => cases this
  · cases h
theorem penOk_of {cs : List PyData} {i dg ct fo : Int} (hi : 0 ≤ i) (hc : cs.all isI = true) : penOk (penD cs i dg ct fo) = true := by
  unfold penOk penD
  simp only [Bool.and_eq_true, decide_eq_true_eq]
  refine ⟨⟨⟨⟨⟨⟨rfl, rfl⟩, rfl⟩, rfl⟩, rfl⟩, hi⟩, ?_⟩
  rw [List.all_eq_true] at hc ⊢
  intro x hx
  have := hc x hx
  cases x with
  | int _ => rfl
  | _ => cases this
def ffDraw : FF := fun ds G => match ds, G with
  | [.obj 0, .py (.int m)], .pen :: r => if 0 < m ∧ m < 1073741824 then .pick m.toNat fun i => .ok (.py (.int i)) ⟨[], [], .pen :: r⟩ else .no
  | _, _ => .no
def ffPen : FF := fun ds G => match ds, G with
  | [.scr _], [] => .ok (.obj 0) ⟨[], [], [.pen]⟩
  | _, _ => .no
section
variable {P : Program} {w : World} {K : PySem.W.Frag} {mg : Str → Option Value} {base : Heap} {k n : Nat} {x : Str} {f g : FF}
theorem CalG.imp (c : CalG P w K mg base k x n f) (h : ∀ φ H Q E ds vs G, SimG K φ H G → RepA K H φ [] ds vs → OutC K φ H Q E (g ds G) → ∃ G2, SimG K φ H G2 ∧ OutC K φ H Q E (f ds G2)) : CalG P w K mg base k x n g :=
  let ⟨fa, fd, ps, F, hm, kp, b⟩ := c.ex
  ⟨fa, fd, ps, F.imp fun vs H Q E ⟨hl, φ, ds, G, s, r, o⟩ => let ⟨G2, s2, o2⟩ := h φ H Q E ds vs G s r o; ⟨hl, φ, ds, G2, s2, r, o2⟩, hm, kp, b⟩
theorem rep_pen {H : Hp} {φ : List Addr} {a : Addr} {kvs : List (Key × PyData)} (hk : penOk kvs = true) (h : RepG K H φ a (.dK (lift kvs))) : RepG K H φ a .pen :=
  let ⟨vvs, h1, h2⟩ := h
  ⟨kvs, hk, vvs, h1, unlift_rel (unlift_lift kvs) h2⟩
theorem cal_draw (c : CalG P w K mg base k x 2 fDraw) : CalG P w K mg base k x 2 ffDraw := c.imp fun φ H Q E ds vs G s r o => by
  unfold ffDraw at o
  split at o
  · rename_i m rest
    split at o
    · rename_i hm
      have hl : φ.length = rest.length + 1 := s.len
      have h0 : 0 < φ.length := by omega
      obtain ⟨kvs, hk, vvs, h1, h2⟩ := s.at_ 0 φ[0] .pen (List.getElem?_eq_getElem h0) rfl
      obtain ⟨cs, i, dg, ct, fo, rfl, hi, hc⟩ := penOk_inv hk
      obtain ⟨d, i', dg', ct', fo', hd, hi', e⟩ := draw_ok (r := rest) (dg := dg) (ct := ct) (fo := fo) hc hi hm.1 hm.2
      refine ⟨penG cs i dg ct fo :: rest, SimG.reG (n := 0) s fun a ha => ?_, ?_⟩
      · rw [List.getElem?_eq_getElem h0] at ha
        cases ha
        exact ⟨vvs, h1, lift_paired h2⟩
      · rw [e]
        have eg : gc (rest.length + 1) (penG cs i' dg' ct' fo' :: rest) = penG cs i' dg' ct' fo' :: rest := gc_all (penG cs i' dg' ct' fo' :: rest)
        rw [eg]
        intro φ' H' v c g' rv
        have od := o d.toNat (by omega)
        refine od φ' H' v c (SimG.reG (n := 0) g' fun a ha => ?_) ?_
        · exact rep_pen (penOk_of hi' hc) (g'.at_ 0 a _ ha rfl)
        · have : ((d.toNat : Nat) : Int) = d := by omega
          show RepD K H' φ' [] (.py (.int ((d.toNat : Nat) : Int))) v
          rw [this]; exact rv
    · exact o.elim
  · exact o.elim
theorem pen_loop {ns : List Int} (z : D) : ∀ (l : List Int) (fo : Int) (y : Option D), ∃ fo' y', loopD (.one 2) (sAsg (.one 1) (eBin gMod (eB1 gInt (aCons (eBin gAdd (eBin gMul (eVar 1) (eC (.int 173))) (eVar 2)) (aNil))) (eC (.int 1000004249)))) (l.map .int) ⟨[some z, some (.py (.int fo)), y], [], []⟩ = .ok .nx ⟨[some z, some (.py (.int fo')), y'], [], []⟩
  | [], fo, y => ⟨fo, y, rfl⟩
  | c :: l, fo, y => by
    obtain ⟨fo', y', e⟩ := pen_loop (ns := ns) z l (((fo * 173 + c).fmod 1000004249)) (some (.py (.int c)))
    refine ⟨fo', y', ?_⟩
    have a : (sAsg (.one 1) (eBin gMod (eB1 gInt (aCons (eBin gAdd (eBin gMul (eVar 1) (eC (.int 173))) (eVar 2)) (aNil))) (eC (.int 1000004249)))) ⟨[some z, some (.py (.int fo)), some (.py (.int c))], [], []⟩ = .ok .nx ⟨[some z, some (.py (.int ((fo * 173 + c).fmod 1000004249))), some (.py (.int c))], [], []⟩ :=
      asg_i (bin_i (b1_i (bin_i (bin_i rfl rfl (gMul_int (by decide) (by decide))) rfl rfl) rfl) rfl (gMod_int (by decide))) rfl
    show ((sAsg (.one 1) (eBin gMod (eB1 gInt (aCons (eBin gAdd (eBin gMul (eVar 1) (eC (.int 173))) (eVar 2)) (aNil))) (eC (.int 1000004249)))) ⟨[some z, some (.py (.int fo)), some (.py (.int c))], [], []⟩).bind _ = _
    rw [a]
    exact e
theorem pen_ok (ns : List Int) : ∃ fo, fPen [.scr ns] [] = .ok (.obj 0) ⟨[], [], [penG (ns.map .int) 0 0 0 fo]⟩ := by
  obtain ⟨fo, y, e⟩ := pen_loop (ns := ns) (.scr ns) ns 0 none
  refine ⟨fo, ?_⟩
  have e' : mPen ⟨[some (.scr ns), none, none], [], []⟩ = .ok (.ret (.loc 0)) ⟨[some (.scr ns), some (.py (.int fo)), y], [.dK (penD (ns.map .int) 0 0 0 fo)], []⟩ :=
    seq_i (s1 := ⟨[some (.scr ns), some (.py (.int 0)), none], [], []⟩) rfl (seq_i e rfl)
  show fnEnd 0 (mPen ⟨[some (.scr ns), none, none], [], []⟩) = _
  rw [e']; rfl
theorem all_isI (ns : List Int) : (ns.map PyData.int).all isI = true := by simp [isI]
theorem cal_pen (c : CalG P w K mg base k x 1 fPen) : CalG P w K mg base k x 1 ffPen := c.imp fun φ H Q E ds vs G s r o => by
  unfold ffPen at o
  split at o
  · rename_i ns
    obtain ⟨fo, e⟩ := pen_ok ns
    refine ⟨[], s, ?_⟩
    rw [e]
    intro φ' H' v c g' rv
    exact o φ' H' v c (SimG.reG (n := 0) g' fun a ha => rep_pen (penOk_of (Int.le_refl 0) (all_isI ns)) (g'.at_ 0 a _ ha rfl)) rv
  · exact o.elim
end
end DL

set_option Elab.async false
set_option linter.all false
set_option maxRecDepth 100000
set_option maxHeartbeats 2000000
namespace DL
open PySem PySem.Spec PyProof.Rows L2
/-! ### the law is called -/
/-- the heap in which at most the script is told -/
def scH (K : PySem.W.Frag) (a : Addr) (o : Obj) (xs : List V) : Hp := fun b => match K.lookup a with
  | some _ => none
  | none => if b = a then some (.frz o (.lst xs)) else none
theorem law_callG {P : Program} {w : World} {K : PySem.W.Frag} {mg mb : Str → Option Value} {k : Nat} {fa a : Addr} {fd : FuncData} {x : Str} {sp : Sp} {s₁ : Shared} {vs : List Value} {ns : List Int}
    (KX : K.In s₁.heap) (hns : s₁.heap.Ns mainGlobals mg) (hb : s₁.heap.Ns builtinsNs mb) (hbb : ∀ x : Str, x ≠ "__name__" → mb x = bootBuiltins x) (hlim : s₁.heap.NoLimit) (hg : s₁.gens = #[])
    (ha : s₁.heap.get? a = some { cls := .type "list", data := .seq vs.toArray }) (hi : IntsAre vs ns) (hl : ns.length ≤ sizeLine) (hr : Room k callerA)
    (F : ∀ base : Heap, K.In base → base.Ns mainGlobals mg → FnG P w K mg base k fa fd [x] sp) (hbind : ∀ (s : Shared) (u : Value), BindsTo s fd ⟨[u], []⟩ [(x, u)])
    (hsp : ∀ H : Hp, Only H → SqL K H a (ns.map V.int) → sp [.ref a] H (fun v _ => v = .bl true) fun _ _ _ => False) :
    codeAny (model P w) callerA (.call (.ref fa) ⟨[.ref a], []⟩) (fun r s' => r = .ok (.ret (.bool true)) ∧ OldK s₁.heap s'.heap ∧ s'.os = s₁.os ∧ AllBare s'.gens) s₁ := by
  have rv := vals_ints hi
  have lenV := hi.length
  obtain ⟨H, hO, hS, hok, hA, hK⟩ : ∃ H : Hp, Only H ∧ SqL K H a (ns.map V.int) ∧ HOk P w H s₁.heap ∧ (∀ b, H b ≠ none → b = a) ∧ (H a ≠ none → K.lookup a = none) := by
    cases hk : K.lookup a with
    | some o =>
      have e := KX a o hk
      rw [ha] at e
      cases e
      exact ⟨fun _ => none, fun _ => .inl rfl, .inr ⟨_, vs.toArray, _, hk, rfl, rfl, rfl, by rw [List.size_toArray, lenV]; exact hl, by simpa using rv⟩, (show HOk P w (fun _ => none) s₁.heap from fun b u (z : (none : Option HO) = some u) => nomatch z), fun b z => absurd rfl z, fun z => absurd rfl z⟩
    | none =>
      refine ⟨fun b => if b = a then some (.frz { cls := .type "list", data := .seq vs.toArray } (.lst (ns.map V.int))) else none, fun b => ?_, .inl (.inr ⟨{ cls := .type "list", data := .seq vs.toArray }, if_pos rfl⟩), (fun b u z => ?_ : HOk P w _ s₁.heap), fun b z => ?_, fun _ => rfl⟩
      · by_cases hb : b = a
        · exact .inr ⟨_, _, if_pos hb⟩
        · exact .inl (if_neg hb)
      · by_cases hb : b = a
        · have z' := (if_pos hb).symm.trans z
          cases z'
          subst hb
          exact ⟨ha, by rw [List.length_map]; exact hl, vs, _, rv, ha⟩
        · have z' := (if_neg hb).symm.trans z
          cases z'
      · by_cases hb : b = a
        · exact hb
        · exact absurd (if_neg hb) z
  have out : ∀ {b : Addr}, b ≠ a → H b = none := fun {b} hb => by
    cases q : H b with
    | none => rfl
    | some u => exact absurd (hA b (by rw [q]; simp)) hb
  have nsK : ∀ {b : Addr} {m : Str → Option Value}, s₁.heap.Ns b m → (hidT s₁.heap H).Ns b m := fun {b m} ⟨o, es, ep, e, d, r⟩ => ⟨o, es, ep, hidT_get e (out fun z => by
    subst z
    rw [ha] at e; cases e
    have d' : Data.seq vs.toArray _ = Data.dict es ep := d
    cases d'), d, r⟩
  have hKb : K.In (hidT s₁.heap H) := fun b o e => hidT_get (KX b o e) (by
    cases q : H b with
    | none => rfl
    | some u =>
      have e' : b = a := hA b (by rw [q]; simp)
      subst e'
      rw [hK (by rw [q]; simp)] at e; cases e)
  have hM : Mod K mg (hidT s₁.heap H) := ⟨hKb, nsK hns, ⟨mb, nsK hb, hbb⟩, let ⟨mc, h1, h2⟩ := hlim; ⟨mc, nsK h1, h2⟩⟩
  have e0 : Env0 P w K mg (hidT s₁.heap H) callerA [] s₁ H := ⟨rfl, hM, fun b o e => of_hidT e, Nat.le_of_eq (hidT_size _ _), trivial, fun b hb => absurd (show b ∈ ([] : List Addr) from hb) (by simp), hok, .of_eq hg⟩
  refine codeAny_mono ((F _ hKb (nsK hns)).run callerA [] s₁ H ⟨[.ref a], []⟩ [.ref a] [.ref a] _ _ hr rfl e0 (hbind s₁ (.ref a)) (.cons rfl .nil) (hsp H hO hS)) fun r s' h => ?_
  cases r with
  | error e =>
    obtain ⟨_, _, _, _, _, _, _, _, _, _, _, _, q⟩ := h
    exact q.elim
  | ok fl =>
    cases fl with
    | next => exact False.elim h
    | brk => exact False.elim h
    | cont => exact False.elim h
    | ret u =>
      obtain ⟨v, H', os, bare, un, hok', r', q⟩ := h
      have q' : v = .bl true := q
      subst q'
      obtain rfl : u = Value.bool true := r'
      refine ⟨rfl, OldK.of_keep fun b o e => ?_, os, bare⟩
      rcases hO b with z | ⟨ob, xs, z⟩
      · exact un.keep b o e z (by intro z; exact absurd (show b ∈ ([] : List Addr) from z) (by simp)) (by simp)
      · have z2 := un.frzs b ob _ z
        obtain ⟨e1, _⟩ := hok b _ z
        obtain ⟨e2, _⟩ := hok' b _ z2
        rw [e] at e1; cases e1
        exact e2
/-- a law whose mirror is true, whatever is drawn -/
theorem walk_ofG {l : PySem.W.OpenLaw} {n k : Nat} {q : Program} {loose : List Str} {XP : (Str → Option Value) → Heap → Prop} {YP : World → Heap → Prop} {d : DefRec} {x : Str} {f : FF}
    (hn : l.most = some n) (hn2 : n ≤ sizeLine) (hdf : d.params.defaults = []) (hr : Room k callerA)
    (hf : ∀ (K : PySem.W.Frag) (ns : List Int) (H : Hp), OutC K [] H (fun v _ => v = .bl true) (fun _ _ _ => False) (f [.scr ns] []))
    (F : ∀ (w : World) (mg : Str → Option Value) (fa : Addr) (h : Heap), YP w h → h.Ns mainGlobals mg → mg d.name = some (.ref fa) →
      ∃ (K : PySem.W.Frag) (fd : FuncData), K.In h ∧ (∀ (s : Shared) (u : Value), BindsTo s fd ⟨[u], []⟩ [(x, u)]) ∧
        ∀ base : Heap, K.In base → base.Ns mainGlobals mg → FnG l.prog w K mg base k fa fd [x] (spF K 1 f)) :
    PySem.W.WalkO q loose XP YP l.row.toRowW d [] (fun f vs => PySem.call f vs) := by
  refine Att.attach_call hn hdf fun w s₀ s₁ mg mb fa o pm cd doc a vs ns G Y ho hd hcd hmg hobj hints hlen hg => ?_
  obtain ⟨K, fd, KX, hb, hF⟩ := F w mg fa _ Y G.T.g hmg
  refine law_callG KX G.T.g G.T.b G.T.builtins G.T.nolimit hg hobj hints (Nat.le_trans hlen hn2) hr hF hb fun H hO hS => ⟨rfl, [], [.scr ns], [], ⟨rfl, List.nodup_nil, fun n a o h _ => by simp at h⟩, .cons ⟨a, rfl, ?_⟩ .nil, hf K ns H⟩
  rcases hS with (h | ⟨ob, h⟩) | h
  · rcases hO a with z | ⟨ob, xs, z⟩
    · rw [z] at h; cases h
    · rw [z] at h; cases h
  · exact .inl (.inr ⟨ob, Fz_frz h⟩)
  · exact .inr h
end DL
namespace DL
open PySem PySem.Spec PyProof.Rows L2
/-! ### a table by a Bool -/
def tbB (K : PySem.W.Frag) (a : Addr) (tb : TabD) : Bool := tb.all fun p => match p.2 with
  | some (.glob x) => He.valsB K a [(p.1, .glo x)]
  | some (.py (.int i)) => He.valsB K a [(p.1, .int i)]
  | none => He.eqO (PySem.W.nsIn K a p.1) (some none)
  | _ => false
theorem tbB_ok {K : PySem.W.Frag} {a : Addr} {tb : TabD} (h : tbB K a tb = true) : ∀ p ∈ tb, match p.2 with
    | some d => ∃ u v, PySem.W.nsIn K a p.1 = some (some u) ∧ RelV v u ∧ ∀ H, RepD K H [] [] d v
    | none => PySem.W.nsIn K a p.1 = some none := fun p hp => by
  have h1 := List.all_eq_true.mp h p hp
  obtain ⟨z, o⟩ := p
  dsimp only at h1 ⊢
  split at h1
  · rename_i x
    obtain ⟨u, e, r⟩ := He.valsB_ok h1 (q := (z, .glo x)) List.mem_cons_self
    exact ⟨u, _, e, r, fun H => rfl⟩
  · rename_i j
    obtain ⟨u, e, r⟩ := He.valsB_ok h1 (q := (z, .int j)) List.mem_cons_self
    exact ⟨u, _, e, r, fun H => .int j⟩
  · exact He.eqO_ok h1
  · cases h1
end DL

set_option Elab.async false
set_option linter.all false
set_option maxRecDepth 100000
set_option maxHeartbeats 2000000
namespace DL
open PySem PySem.Spec PyProof.Rows L2
/-! ### whatever is drawn -/
def goodB {α : Type} (p : α → ST → Bool) : Out α → Bool
  | .ok a s => p a s
  | .exc _ _ _ => false
  | .no => false
  | .pick n k => (List.range n).all fun i => goodB p (k i)
theorem good_bind {α β : Type} {p : α → ST → Bool} {q : β → ST → Bool} {f : α → ST → Out β} (hp : ∀ a s, p a s = true → goodB q (f a s) = true) : ∀ {o : Out α}, goodB p o = true → goodB q (o.bind f) = true
  | .ok a s, h => hp a s h
  | .exc _ _ _, h => by cases h
  | .no, h => by cases h
  | .pick n k, h => by
    have h' : (List.range n).all (fun i => goodB p (k i)) = true := h
    show (List.range n).all (fun i => goodB q ((k i).bind f)) = true
    rw [List.all_eq_true] at h' ⊢
    exact fun i hi => good_bind hp (h' i hi)
def nxB (inv : ST → Bool) (fl : Fl) (s : ST) : Bool := match fl with
  | .nx => inv s
  | _ => false
theorem nxB_of {inv : ST → Bool} {fl : Fl} {s : ST} (h : nxB inv fl s = true) : fl = .nx ∧ inv s = true := by
  cases fl with
  | nx => exact ⟨rfl, h⟩
  | _ => cases h
theorem good_seq {inv : ST → Bool} {q : Fl → ST → Bool} {f g : FSt} {s : ST} (h : goodB (nxB inv) (f s) = true) (hg : ∀ s1, inv s1 = true → goodB q (g s1) = true) : goodB q (sSeq f g s) = true :=
  good_bind (fun fl s1 hp => by
    obtain ⟨rfl, hi⟩ := nxB_of hp
    exact hg s1 hi) h
def iterD (tg : Tg) (body : FSt) (x : PyData) (s : ST) : Out Fl := match tg.put (.py x) s with
  | none => .no
  | some s1 => body s1
theorem good_loop {tg : Tg} {body : FSt} {inv : ST → Bool} : ∀ {items : List PyData}, (∀ x ∈ items, ∀ s, inv s = true → goodB (nxB inv) (iterD tg body x s) = true) → ∀ s, inv s = true → goodB (nxB inv) (loopD tg body items s) = true
  | [], _, s, hs => hs
  | x :: xs, h, s, hs => by
    have h1 := h x List.mem_cons_self s hs
    have ih := good_loop (tg := tg) (body := body) (inv := inv) (items := xs) fun y hy => h y (List.mem_cons_of_mem _ hy)
    unfold iterD at h1
    unfold loopD
    cases e : tg.put (.py x) s with
    | none => rw [e] at h1; cases h1
    | some s1 =>
      rw [e] at h1
      exact good_bind (fun fl s2 hp => by
        obtain ⟨rfl, hi⟩ := nxB_of hp
        exact ih s2 hi) h1
theorem good_for {fi : FI} {tg : Tg} {body : FSt} {inv : ST → Bool} {items : List PyData} {s s1 : ST} (hi : fi s = .ok items s1) (h1 : inv s1 = true) (h : ∀ x ∈ items, ∀ s, inv s = true → goodB (nxB inv) (iterD tg body x s) = true) : goodB (nxB inv) (sFor fi tg body s) = true := by
  unfold sFor
  rw [hi]
  exact good_loop h s1 h1
def trueD : D → ST → Bool
  | .py (.bool true), _ => true
  | _, _ => false
def trueF : Fl → ST → Bool
  | .ret (.py (.bool true)), _ => true
  | _, _ => false
theorem good_end {n : Nat} : ∀ {o : Out Fl}, goodB trueF o = true → goodB trueD (fnEnd n o) = true
  | .ok fl s, h => by
    have h' : trueF fl s = true := h
    unfold trueF at h'
    split at h'
    · rfl
    · cases h'
  | .exc _ _ _, h => by cases h
  | .no, h => by cases h
  | .pick m k, h => by
    have h' : (List.range m).all (fun i => goodB trueF (k i)) = true := h
    show (List.range m).all (fun i => goodB trueD (fnEnd n (k i))) = true
    rw [List.all_eq_true] at h' ⊢
    exact fun i hi => good_end (h' i hi)
theorem outC_good {K : PySem.W.Frag} {φ : List Addr} {H : Hp} {E : XK} : ∀ {o : Out D}, goodB trueD o = true → OutC K φ H (fun v _ => v = .bl true) E o
  | .ok d s, h => by
    have h' : trueD d s = true := h
    unfold trueD at h'
    split at h'
    · intro φ' H' v _ _ r
      have r' : Dp [] (Fz H') v (.bool true) := r
      cases r'; rfl
    · cases h'
  | .exc _ _ _, h => by cases h
  | .no, h => by cases h
  | .pick m k, h => fun i hi => by
    have h' : (List.range m).all (fun i => goodB trueD (k i)) = true := h
    rw [List.all_eq_true] at h'
    exact outC_good (h' i (List.mem_range.mpr hi))
theorem all_cut {α : Type} {p : α → Bool} (n : Nat) {xs : List α} (h1 : (xs.take n).all p = true) (h2 : (xs.drop n).all p = true) : xs.all p = true := by
  rw [← List.take_append_drop n xs, List.all_append, h1, h2]; rfl
end DL
namespace DL
open PySem PySem.Spec PyProof.Rows L2
/-! ### .. as a Prop -/
def Good {α : Type} (P : α → ST → Prop) : Out α → Prop
  | .ok a s => P a s
  | .exc _ _ _ => False
  | .no => False
  | .pick n k => ∀ i, i < n → Good P (k i)
theorem good_iff {α : Type} {p : α → ST → Bool} : ∀ {o : Out α}, Good (fun a s => p a s = true) o ↔ goodB p o = true
  | .ok _ _ => Iff.rfl
  | .exc _ _ _ => ⟨fun h => h.elim, fun h => by cases h⟩
  | .no => ⟨fun h => h.elim, fun h => by cases h⟩
  | .pick n k => by
    show (∀ i, i < n → Good _ (k i)) ↔ (List.range n).all (fun i => goodB p (k i)) = true
    rw [List.all_eq_true]
    exact ⟨fun h i hi => good_iff.mp (h i (List.mem_range.mp hi)), fun h i hi => good_iff.mpr (h i (List.mem_range.mpr hi))⟩
theorem Good.bind {α β : Type} {P : α → ST → Prop} {Q : β → ST → Prop} {f : α → ST → Out β} (hp : ∀ a s, P a s → Good Q (f a s)) : ∀ {o : Out α}, Good P o → Good Q (o.bind f)
  | .ok a s, h => hp a s h
  | .exc _ _ _, h => h
  | .no, h => h
  | .pick n k, h => fun i hi => Good.bind hp (h i hi)
theorem good_all {α ι : Type} {p : ι → α → ST → Bool} : ∀ {o : Out α}, (∀ e, goodB (p e) o = true) → Nonempty ι → Good (fun a s => ∀ e, p e a s = true) o
  | .ok _ _, h, _ => h
  | .exc _ _ _, h, ⟨e⟩ => by have := h e; cases this
  | .no, h, ⟨e⟩ => by have := h e; cases this
  | .pick n k, h, ne => fun i hi => good_all (fun e => by
      have h' : (List.range n).all (fun i => goodB (p e) (k i)) = true := h e
      rw [List.all_eq_true] at h'
      exact h' i (List.mem_range.mpr hi)) ne
/-- a loop's item, whatever the state -/
def ItemOk (inv : ST → Bool) (tg : Tg) (body : FSt) (x : PyData) : Prop := ∀ s, inv s = true → goodB (nxB inv) (iterD tg body x s) = true
theorem good_for2 {fi : FI} {tg : Tg} {body : FSt} {inv : ST → Bool} {s : ST} (h : Good (fun items s1 => inv s1 = true ∧ ∀ x ∈ items, ItemOk inv tg body x) (fi s)) : goodB (nxB inv) (sFor fi tg body s) = true :=
  good_iff.mp (Good.bind (fun items s1 hp => good_iff.mpr (good_loop (fun x hx => hp.2 x hx) s1 hp.1)) h)
/-- one more behind a list -/
theorem good_snoc {f : FE} {j : Nat} {s : ST} {l : List PyData} {C : PyData → Prop} {inv : ST → Bool} (hs : s.S[j]? = some (some (.py (.list l)))) (hl : l.length ≤ 5) (h2 : ∀ x ∈ l, C x)
    (hf : Good (fun d s1 => inv s1 = true ∧ ∃ y, d = .py y ∧ C y) (f s)) : Good (fun items s1 => inv s1 = true ∧ ∀ x ∈ items, C x) (iSeq (eBin gAdd (eVar j) (eLst (aCons f aNil))) s) := by
  have e1 : Good (fun ds s1 => inv s1 = true ∧ ∃ y, ds = [.py y] ∧ C y) (aCons f aNil s) :=
    Good.bind (P := fun d s1 => inv s1 = true ∧ ∃ y, d = .py y ∧ C y) (fun d s1 ⟨hi, y, e, hy⟩ => by
      subst e
      exact ⟨hi, y, rfl, hy⟩) hf
  have e2 : Good (fun d s1 => inv s1 = true ∧ ∃ y, d = .py (.list [y]) ∧ C y) (eLst (aCons f aNil) s) :=
    Good.bind (P := fun ds s1 => inv s1 = true ∧ ∃ y, ds = [.py y] ∧ C y) (fun ds s1 ⟨hi, y, e, hy⟩ => by
      subst e
      exact ⟨hi, y, rfl, hy⟩) e1
  have ev : eVar j s = .ok (.py (.list l)) s := by
    unfold eVar
    rw [hs]
  have e3 : Good (fun d s1 => inv s1 = true ∧ ∃ y, d = .py (.list (l ++ [y])) ∧ C y) (eBin gAdd (eVar j) (eLst (aCons f aNil)) s) := by
    unfold eBin
    rw [ev]
    show Good _ ((eLst (aCons f aNil) s).bind _)
    refine Good.bind (P := fun d s1 => inv s1 = true ∧ ∃ y, d = .py (.list [y]) ∧ C y) (fun d s1 ⟨hi, y, e, hy⟩ => ?_) e2
    subst e
    have eg : gAdd (.list l) (.list [y]) = some (.list (l ++ [y])) := by
      show (if l.length + [y].length ≤ sizeLine then _ else _) = _
      rw [if_pos]
      have : (6 : Nat) ≤ sizeLine := by decide
      simp only [List.length_cons, List.length_nil]
      omega
    show Good _ (opt (gAdd (.list l) (.list [y])) s1)
    rw [eg]
    exact ⟨hi, y, rfl, hy⟩
  exact Good.bind (P := fun d s1 => inv s1 = true ∧ ∃ y, d = .py (.list (l ++ [y])) ∧ C y) (fun d s1 ⟨hi, y, e, hy⟩ => by
    subst e
    refine ⟨hi, fun x hx => ?_⟩
    rcases List.mem_append.mp hx with hx | hx
    · exact h2 x hx
    · have : x = y := by simpa using hx
      subst this; exact hy) e3
theorem iter_seq {tg : Tg} {f g : FSt} {x : PyData} {s s1 : ST} (h : iterD tg f x s = .ok .nx s1) : iterD tg (sSeq f g) x s = g s1 := by
  unfold iterD at h ⊢
  cases e : tg.put (.py x) s with
  | none => rw [e] at h; cases h
  | some s2 =>
    rw [e] at h
    show (f s2).bind _ = _
    have h' : f s2 = .ok .nx s1 := h
    rw [h']; rfl
end DL
namespace DL
theorem Good.mono {α : Type} {P Q : α → ST → Prop} (h : ∀ a s, P a s → Q a s) : ∀ {o : Out α}, Good P o → Good Q o
  | .ok a s, g => h a s g
  | .exc _ _ _, g => g
  | .no, g => g
  | .pick _ _, g => fun i hi => Good.mono h (g i hi)
end DL
namespace DL
open PySem PySem.Spec PyProof.Rows L2
def tchkG (inv : ST → Bool) (tg : Tg) (body : FSt) (e : ST) (d : D) (s : ST) : Bool := inv s && match d with
  | .py y => goodB (nxB inv) (iterD tg body y e)
  | _ => false
theorem turn_gen {inv : ST → Bool} {tg : Tg} {body : FSt} {o : Out D} {s00 : ST} (h00 : inv s00 = true) (h : ∀ e, inv e = true → goodB (tchkG inv tg body e) o = true) : Good (fun d s1 => inv s1 = true ∧ ∃ y, d = .py y ∧ ItemOk inv tg body y) o := by
  refine Good.mono (P := fun d s => ∀ e : {e : ST // inv e = true}, tchkG inv tg body e.1 d s = true) (fun d s h => ?_) (good_all (ι := {e : ST // inv e = true}) (p := fun e => tchkG inv tg body e.1) (fun e => h e.1 e.2) ⟨⟨s00, h00⟩⟩)
  have h0 := h ⟨s00, h00⟩
  unfold tchkG at h0
  rw [Bool.and_eq_true] at h0
  refine ⟨h0.1, ?_⟩
  cases d with
  | py y =>
    refine ⟨y, rfl, fun e he => ?_⟩
    have h2 := h ⟨e, he⟩
    unfold tchkG at h2
    rw [Bool.and_eq_true] at h2
    exact h2.2
  | _ => cases h0.2
/-- an item: a head, a draw between a list of one and none, a loop over it and what is turned -/
theorem item_gen {inv : ST → Bool} {tg1 tgI : Tg} {a1 a5 bdI : FSt} {fT : FE} {j : Nat} {x c : PyData} {s00 : ST} (h00 : inv s00 = true)
    (h : ∀ s, inv s = true → ∃ s3 s4 s5, iterD tg1 a1 x s = .ok .nx s3 ∧ (∀ p : Fl → ST → Bool, goodB p (a5 s3) = (p .nx s4 && (p .nx s5 && true))) ∧ s4.S[j]? = some (some (.py (.list [c]))) ∧ s5.S[j]? = some (some (.py (.list []))) ∧
      (∀ e, inv e = true → goodB (tchkG inv tgI bdI e) (fT s4) = true) ∧ ∀ e, inv e = true → goodB (tchkG inv tgI bdI e) (fT s5) = true)
    (hc : ItemOk inv tgI bdI c) : ItemOk inv tg1 (sSeq a1 (sSeq a5 (sFor (iSeq (eBin gAdd (eVar j) (eLst (aCons fT aNil)))) tgI bdI))) x := by
  intro s hs
  obtain ⟨s3, s4, s5, h1, h2, h3, h4, h5, h6⟩ := h s hs
  rw [iter_seq h1]
  refine good_seq (inv := fun s => goodB (nxB inv) (sFor (iSeq (eBin gAdd (eVar j) (eLst (aCons fT aNil)))) tgI bdI s)) ?_ fun s1 h => h
  rw [h2, Bool.and_true, Bool.and_eq_true]
  refine ⟨good_for2 (good_snoc h3 (by simp) (fun y hy => ?_) (turn_gen h00 h5)), good_for2 (good_snoc h4 (by simp) (fun y hy => by cases hy) (turn_gen h00 h6))⟩
  have e : y = c := by simpa using hy
  rw [e]; exact hc
end DL

set_option Elab.async false
set_option linter.all false
set_option maxRecDepth 100000
set_option maxHeartbeats 2000000
namespace DL
open PySem PySem.Spec PyProof.Rows L2
theorem law_gen {inv : ST → Bool} {sA sR : FSt} {fi1 fi2 : FI} {tg1 tg2 : Tg} {bd1 bd2 : FSt} {items1 items2 : List PyData} {s0 : ST} (hA : goodB (nxB inv) (sA s0) = true)
    (h1 : ∀ s, inv s = true → fi1 s = .ok items1 s) (all1 : ∀ x ∈ items1, ItemOk inv tg1 bd1 x) (h2 : ∀ s, inv s = true → fi2 s = .ok items2 s) (all2 : ∀ x ∈ items2, ItemOk inv tg2 bd2 x)
    (hR : ∀ s, inv s = true → goodB trueF (sR s) = true) : goodB trueF (sSeq sA (sSeq (sFor fi1 tg1 bd1) (sSeq (sFor fi2 tg2 bd2) sR)) s0) = true :=
  good_seq hA fun s1 i1 => good_seq (good_for (h1 s1 i1) i1 all1) fun s2 i2 => good_seq (good_for (h2 s2 i2) i2 all2) hR
theorem fn_good {N : Nat} {b : FSt} {ds : List D} {G : List GO} {ff : FF} (e : ff = fnRun N b) (h : goodB trueF (b ⟨slots N ds, [], G⟩) = true) : goodB trueD (ff ds G) = true := by
  rw [e]
  exact good_end h
end DL

set_option Elab.async false
set_option linter.all false
set_option maxRecDepth 100000
set_option maxHeartbeats 2000000
namespace DL
open PySem PySem.Spec PyProof.Rows L2
/-! ### the end of a law: said by a Bool, so that no whnf runs the mirror -/
theorem walk_ofB {l : PySem.W.OpenLaw} {n k : Nat} {q : Program} {loose : List Str} {XP : (Str → Option Value) → Heap → Prop} {YP : World → Heap → Prop} {d : DefRec} {x : Str} {f : FF}
    (hn : l.most = some n) (hn2 : n ≤ sizeLine) (hdf : d.params.defaults = []) (hr : Room k callerA)
    (hf : ∀ ns : List Int, goodB trueD (f [.scr ns] []) = true)
    (F : ∀ (w : World) (mg : Str → Option Value) (fa : Addr) (h : Heap), YP w h → h.Ns mainGlobals mg → mg d.name = some (.ref fa) →
      ∃ (K : PySem.W.Frag) (fd : FuncData), K.In h ∧ (∀ (s : Shared) (u : Value), BindsTo s fd ⟨[u], []⟩ [(x, u)]) ∧
        ∀ base : Heap, K.In base → base.Ns mainGlobals mg → FnG l.prog w K mg base k fa fd [x] (spF K 1 f)) :
    PySem.W.WalkO q loose XP YP l.row.toRowW d [] (fun f vs => PySem.call f vs) :=
  walk_ofG hn hn2 hdf hr (fun K ns H => outC_good (hf ns)) F
end DL

set_option Elab.async false
set_option linter.all false
set_option maxRecDepth 100000
set_option maxHeartbeats 4000000
namespace Lw
open PySem PySem.Spec PyProof.Rows L2 DL
def top (i : Nat) : Stmt := PySem.Challenge.pw_answerbits_k49_whole_conditions_of_steps.main.body.getD i (.Pass ⟨0, 0, 0, 0⟩)
def tb_WORDS : TabD := [("unit", some (.py (.int 1))), ("drop", some (.py (.int 2))), ("cover", some (.py (.int 2))), ("pure", some (.py (.int 1))), ("block", some (.py (.int 2))), ("see", some (.py (.int 2)))]
def tb_ONES : TabD := [("unit", some (.glob "unit_done")), ("pure", some (.glob "pure_done")), ("drop", none), ("cover", none), ("block", none), ("see", none)]
def tb_TWOS : TabD := [("drop", some (.glob "drop_done")), ("cover", some (.glob "cover_done")), ("block", some (.glob "block_done")), ("see", some (.glob "see_done")), ("unit", none), ("pure", none)]
/-- what the top of the module leaves -/
structure Md (w : World) (K : PySem.W.Frag) (mg : Str → Option Value) : Prop where
  g__law_pen : mg "_law_pen" = some (.ref (He.ga K "_law_pen"))
  d__law_pen : ∃ fd, FunD K "_law_pen" "_law_pen" (defArgs (top 54)) (defBody (top 54)) (defScope (top 54)) [] [] (He.ga K "_law_pen") fd
  g__law_sights : mg "_law_sights" = some (.ref (He.ga K "_law_sights"))
  d__law_sights : ∃ fd, FunD K "_law_sights" "_law_sights" (defArgs (top 60)) (defBody (top 60)) (defScope (top 60)) [] [] (He.ga K "_law_sights") fd
  g__law_units : mg "_law_units" = some (.ref (He.ga K "_law_units"))
  d__law_units : ∃ fd, FunD K "_law_units" "_law_units" (defArgs (top 58)) (defBody (top 58)) (defScope (top 58)) [] [] (He.ga K "_law_units") fd
  g__law_blocks : mg "_law_blocks" = some (.ref (He.ga K "_law_blocks"))
  d__law_blocks : ∃ fd, FunD K "_law_blocks" "_law_blocks" (defArgs (top 59)) (defBody (top 59)) (defScope (top 59)) [] [] (He.ga K "_law_blocks") fd
  g__law_flipped : mg "_law_flipped" = some (.ref (He.ga K "_law_flipped"))
  d__law_flipped : ∃ fd, FunD K "_law_flipped" "_law_flipped" (defArgs (top 57)) (defBody (top 57)) (defScope (top 57)) [] [] (He.ga K "_law_flipped") fd
  g__law_draw : mg "_law_draw" = some (.ref (He.ga K "_law_draw"))
  d__law_draw : ∃ fd, FunD K "_law_draw" "_law_draw" (defArgs (top 55)) (defBody (top 55)) (defScope (top 55)) [] [] (He.ga K "_law_draw") fd
  g__law_pick : mg "_law_pick" = some (.ref (He.ga K "_law_pick"))
  d__law_pick : ∃ fd, FunD K "_law_pick" "_law_pick" (defArgs (top 56)) (defBody (top 56)) (defScope (top 56)) [] [] (He.ga K "_law_pick") fd
  g__law_turned : mg "_law_turned" = some (.ref (He.ga K "_law_turned"))
  d__law_turned : ∃ fd, FunD K "_law_turned" "_law_turned" (defArgs (top 62)) (defBody (top 62)) (defScope (top 62)) [] [] (He.ga K "_law_turned") fd
  g_is_rising : mg "is_rising" = some (.ref (He.ga K "is_rising"))
  d_is_rising : ∃ fd, FunD K "is_rising" "is_rising" (defArgs (top 13)) (defBody (top 13)) (defScope (top 13)) [] [] (He.ga K "is_rising") fd
  g_is_whole : mg "is_whole" = some (.ref (He.ga K "is_whole"))
  d_is_whole : ∃ fd, FunD K "is_whole" "is_whole" (defArgs (top 5)) (defBody (top 5)) (defScope (top 5)) [] [] (He.ga K "is_whole") fd
  g_is_count : mg "is_count" = some (.ref (He.ga K "is_count"))
  d_is_count : ∃ fd, FunD K "is_count" "is_count" (defArgs (top 6)) (defBody (top 6)) (defScope (top 6)) [] [] (He.ga K "is_count") fd
  g_is_look : mg "is_look" = some (.ref (He.ga K "is_look"))
  d_is_look : ∃ fd, FunD K "is_look" "is_look" (defArgs (top 15)) (defBody (top 15)) (defScope (top 15)) [] [] (He.ga K "is_look") fd
  g_are_bits_in : mg "are_bits_in" = some (.ref (He.ga K "are_bits_in"))
  d_are_bits_in : ∃ fd, FunD K "are_bits_in" "are_bits_in" (defArgs (top 16)) (defBody (top 16)) (defScope (top 16)) [] [] (He.ga K "are_bits_in") fd
  g_is_clause_in : mg "is_clause_in" = some (.ref (He.ga K "is_clause_in"))
  d_is_clause_in : ∃ fd, FunD K "is_clause_in" "is_clause_in" (defArgs (top 14)) (defBody (top 14)) (defScope (top 14)) [] [] (He.ga K "is_clause_in") fd
  g_is_formula_in : mg "is_formula_in" = some (.ref (He.ga K "is_formula_in"))
  d_is_formula_in : ∃ fd, FunD K "is_formula_in" "is_formula_in" (defArgs (top 17)) (defBody (top 17)) (defScope (top 17)) [] [] (He.ga K "is_formula_in") fd
  g_need_formula : mg "need_formula" = some (.ref (He.ga K "need_formula"))
  d_need_formula : ∃ fd, FunD K "need_formula" "need_formula" (defArgs (top 18)) (defBody (top 18)) (defScope (top 18)) [] [] (He.ga K "need_formula") fd
  g_is_step_form : mg "is_step_form" = some (.ref (He.ga K "is_step_form"))
  d_is_step_form : ∃ fd, FunD K "is_step_form" "is_step_form" (defArgs (top 26)) (defBody (top 26)) (defScope (top 26)) [] [] (He.ga K "is_step_form") fd
  g_are_steps_form : mg "are_steps_form" = some (.ref (He.ga K "are_steps_form"))
  d_are_steps_form : ∃ fd, FunD K "are_steps_form" "are_steps_form" (defArgs (top 27)) (defBody (top 27)) (defScope (top 27)) [] [] (He.ga K "are_steps_form") fd
  g_need_steps : mg "need_steps" = some (.ref (He.ga K "need_steps"))
  d_need_steps : ∃ fd, FunD K "need_steps" "need_steps" (defArgs (top 28)) (defBody (top 28)) (defScope (top 28)) [] [] (He.ga K "need_steps") fd
  g_told_again : mg "told_again" = some (.ref (He.ga K "told_again"))
  d_told_again : ∃ fd, FunD K "told_again" "told_again" (defArgs (top 29)) (defBody (top 29)) (defScope (top 29)) [] [] (He.ga K "told_again") fd
  g_without : mg "without" = some (.ref (He.ga K "without"))
  d_without : ∃ fd, FunD K "without" "without" (defArgs (top 30)) (defBody (top 30)) (defScope (top 30)) [] [] (He.ga K "without") fd
  g_held_in : mg "held_in" = some (.ref (He.ga K "held_in"))
  d_held_in : ∃ fd, FunD K "held_in" "held_in" (defArgs (top 31)) (defBody (top 31)) (defScope (top 31)) [] [] (He.ga K "held_in") fd
  g_unit_done : mg "unit_done" = some (.ref (He.ga K "unit_done"))
  d_unit_done : ∃ fd, FunD K "unit_done" "unit_done" (defArgs (top 34)) (defBody (top 34)) (defScope (top 34)) [] [] (He.ga K "unit_done") fd
  g_pure_done : mg "pure_done" = some (.ref (He.ga K "pure_done"))
  d_pure_done : ∃ fd, FunD K "pure_done" "pure_done" (defArgs (top 37)) (defBody (top 37)) (defScope (top 37)) [] [] (He.ga K "pure_done") fd
  g_looks_at_in : mg "looks_at_in" = some (.ref (He.ga K "looks_at_in"))
  d_looks_at_in : ∃ fd, FunD K "looks_at_in" "looks_at_in" (defArgs (top 22)) (defBody (top 22)) (defScope (top 22)) [] [] (He.ga K "looks_at_in") fd
  g_dropped_in : mg "dropped_in" = some (.ref (He.ga K "dropped_in"))
  d_dropped_in : ∃ fd, FunD K "dropped_in" "dropped_in" (defArgs (top 23)) (defBody (top 23)) (defScope (top 23)) [] [] (He.ga K "dropped_in") fd
  g_drop_done : mg "drop_done" = some (.ref (He.ga K "drop_done"))
  d_drop_done : ∃ fd, FunD K "drop_done" "drop_done" (defArgs (top 35)) (defBody (top 35)) (defScope (top 35)) [] [] (He.ga K "drop_done") fd
  g_cover_done : mg "cover_done" = some (.ref (He.ga K "cover_done"))
  d_cover_done : ∃ fd, FunD K "cover_done" "cover_done" (defArgs (top 36)) (defBody (top 36)) (defScope (top 36)) [] [] (He.ga K "cover_done") fd
  g_look_in : mg "look_in" = some (.ref (He.ga K "look_in"))
  d_look_in : ∃ fd, FunD K "look_in" "look_in" (defArgs (top 20)) (defBody (top 20)) (defScope (top 20)) [] [] (He.ga K "look_in") fd
  g_can_see : mg "can_see" = some (.ref (He.ga K "can_see"))
  d_can_see : ∃ fd, FunD K "can_see" "can_see" (defArgs (top 32)) (defBody (top 32)) (defScope (top 32)) [] [] (He.ga K "can_see") fd
  g_seen_others : mg "seen_others" = some (.ref (He.ga K "seen_others"))
  d_seen_others : ∃ fd, FunD K "seen_others" "seen_others" (defArgs (top 38)) (defBody (top 38)) (defScope (top 38)) [] [] (He.ga K "seen_others") fd
  g_block_done : mg "block_done" = some (.ref (He.ga K "block_done"))
  d_block_done : ∃ fd, FunD K "block_done" "block_done" (defArgs (top 39)) (defBody (top 39)) (defScope (top 39)) [] [] (He.ga K "block_done") fd
  g_ring_in : mg "ring_in" = some (.ref (He.ga K "ring_in"))
  d_ring_in : ∃ fd, FunD K "ring_in" "ring_in" (defArgs (top 33)) (defBody (top 33)) (defScope (top 33)) [] [] (He.ga K "ring_in") fd
  g_bits_in : mg "bits_in" = some (.ref (He.ga K "bits_in"))
  d_bits_in : ∃ fd, FunD K "bits_in" "bits_in" (defArgs (top 19)) (defBody (top 19)) (defScope (top 19)) [] [] (He.ga K "bits_in") fd
  g_see_done : mg "see_done" = some (.ref (He.ga K "see_done"))
  d_see_done : ∃ fd, FunD K "see_done" "see_done" (defArgs (top 40)) (defBody (top 40)) (defScope (top 40)) [] [] (He.ga K "see_done") fd
  g_step_done : mg "step_done" = some (.ref (He.ga K "step_done"))
  d_step_done : ∃ fd, FunD K "step_done" "step_done" (defArgs (top 43)) (defBody (top 43)) (defScope (top 43)) [] [] (He.ga K "step_done") fd
  g_ways_in : mg "ways_in" = some (.ref (He.ga K "ways_in"))
  d_ways_in : ∃ fd, FunD K "ways_in" "ways_in" (defArgs (top 44)) (defBody (top 44)) (defScope (top 44)) [] [] (He.ga K "ways_in") fd
  g_need_ways : mg "need_ways" = some (.ref (He.ga K "need_ways"))
  d_need_ways : ∃ fd, FunD K "need_ways" "need_ways" (defArgs (top 47)) (defBody (top 47)) (defScope (top 47)) [] [] (He.ga K "need_ways") fd
  g_steps_done : mg "steps_done" = some (.ref (He.ga K "steps_done"))
  d_steps_done : ∃ fd, FunD K "steps_done" "steps_done" (defArgs (top 48)) (defBody (top 48)) (defScope (top 48)) [] [] (He.ga K "steps_done") fd
  g_bar_in : mg "bar_in" = some (.ref (He.ga K "bar_in"))
  d_bar_in : ∃ fd, FunD K "bar_in" "bar_in" (defArgs (top 45)) (defBody (top 45)) (defScope (top 45)) [] [] (He.ga K "bar_in") fd
  g_step_bar : mg "step_bar" = some (.ref (He.ga K "step_bar"))
  d_step_bar : ∃ fd, FunD K "step_bar" "step_bar" (defArgs (top 46)) (defBody (top 46)) (defScope (top 46)) [] [] (He.ga K "step_bar") fd
  g_forms_in : mg "forms_in" = some (.ref (He.ga K "forms_in"))
  d_forms_in : ∃ fd, FunD K "forms_in" "forms_in" (defArgs (top 49)) (defBody (top 49)) (defScope (top 49)) [] [] (He.ga K "forms_in") fd
  g_steps_at : mg "steps_at" = some (.ref (He.ga K "steps_at"))
  d_steps_at : ∃ fd, FunD K "steps_at" "steps_at" (defArgs (top 51)) (defBody (top 51)) (defScope (top 51)) [] [] (He.ga K "steps_at") fd
  g_first_step : mg "first_step" = some (.ref (He.ga K "first_step"))
  d_first_step : ∃ fd, FunD K "first_step" "first_step" (defArgs (top 50)) (defBody (top 50)) (defScope (top 50)) [] [] (He.ga K "first_step") fd
  g_is_bare : mg "is_bare" = some (.ref (He.ga K "is_bare"))
  d_is_bare : ∃ fd, FunD K "is_bare" "is_bare" (defArgs (top 52)) (defBody (top 52)) (defScope (top 52)) [] [] (He.ga K "is_bare") fd
  g__law_case_right : mg "_law_case_right" = some (.ref (He.ga K "_law_case_right"))
  d__law_case_right : ∃ fd, FunD K "_law_case_right" "_law_case_right" (defArgs (top 61)) (defBody (top 61)) (defScope (top 61)) [] [] (He.ga K "_law_case_right") fd
  g_law : mg "law" = some (.ref (He.ga K "law"))
  d_law : ∃ fd, FunD K "law" "law" (defArgs (top 63)) (defBody (top 63)) (defScope (top 63)) [] [] (He.ga K "law") fd
  b_abs : mg "abs" = none
  b_all : mg "all" = none
  b_any : mg "any" = none
  b_bool : mg "bool" = none
  b_int : mg "int" = none
  b_isinstance : mg "isinstance" = none
  b_len : mg "len" = none
  b_list : mg "list" = none
  b_range : mg "range" = none
  b_sorted : mg "sorted" = none
  b_str : mg "str" = none
  b_tuple : mg "tuple" = none
  b_zip : mg "zip" = none
  n_MOST_ASKED : ∃ t, mg "MOST_ASKED" = some (.int 4 t)
  n_MOST_ANSWERS : ∃ t, mg "MOST_ANSWERS" = some (.int 6 t)
  n_MOST_BITS : ∃ t, mg "MOST_BITS" = some (.int 9 t)
  n_MOST_LOOKS : ∃ t, mg "MOST_LOOKS" = some (.int 3 t)
  n_MOST_CLAUSES : ∃ t, mg "MOST_CLAUSES" = some (.int 16 t)
  t_WORDS : Tb K w mg "WORDS" tb_WORDS
  t_ONES : Tb K w mg "ONES" tb_ONES
  t_TWOS : Tb K w mg "TWOS" tb_TWOS
section
variable {P : Program} {w : World} {K : PySem.W.Frag} {mg : Str → Option Value} {base : Heap}
/-! _law_pen -/
def N__law_pen : List Str := ["script", "fold", "cell"]
def m__law_pen : FSt := sSeq (sAsg (.one 1) (eC (.int 0))) (sSeq (sFor (iSeq (eVar 0)) (.one 2) (sAsg (.one 1) (eBin gMod (eB1 gInt (aCons (eBin gAdd (eBin gMul (eVar 1) (eC (.int 173))) (eVar 2)) (aNil))) (eC (.int 1000004249))))) (sRet (eDisp [(eC (.str "cells"), eB1 gList (aCons (eVar 0) (aNil))), (eC (.str "at"), eC (.int 0)), (eC (.str "digits"), eC (.int 0)), (eC (.str "count"), eC (.int 0)), (eC (.str "fold"), eVar 1)])))
def ff__law_pen : FF := ffPen
theorem S__law_pen : FnScope N__law_pen ["script"] (defScope (top 54)) := C8.fnScope_by (by decide +kernel)
theorem b__law_pen {fa : Addr} (M : Md w K mg) (cdv : Value) (A : Around) (outer : List Env) (s : Shared) (H : Hp) (E : XK)
    (C : Ctx (cxOf (L2.CX P w) P w K mg base N__law_pen "_law_pen" (defScope (top 54)) fa cdv A outer s H E) 0) (tk : Takes (cxOf (L2.CX P w) P w K mg base N__law_pen "_law_pen" (defScope (top 54)) fa cdv A outer s H E) (fun c d _ H' => E c d H'))
    (hp : PassesOwn (model P w) (A.deeper (envOfC "_law_pen" (defScope (top 54)) s.heap.objs.size fa cdv)) (envOfC "_law_pen" (defScope (top 54)) s.heap.objs.size fa cdv) (cxOf (L2.CX P w) P w K mg base N__law_pen "_law_pen" (defScope (top 54)) fa cdv A outer s H E).xe) :
    PSsD (cxOf (L2.CX P w) P w K mg base N__law_pen "_law_pen" (defScope (top 54)) fa cdv A outer s H E) (fun c d _ H' => E c d H') (defBody (top 54)) m__law_pen := by
  have nd : N__law_pen.Nodup := S__law_pen.nd
  exact psd_cons (psd_set (i := 1) nd rfl (.inl rfl) (ped_int)) (psd_cons (psd_for hp C.calm (pid_seq (ped_var (pe_var (i := 0) rfl (.inl rfl)))) (pgd_one nd rfl (.inl rfl)) (psd_one (psd_set (i := 1) nd rfl (.inl rfl) (ped_bin opd_mod (ped_t1 cald_int rfl M.b_int boot_int (pad_cons (ped_bin opd_add (ped_bin opd_mul (ped_var (pe_var (i := 1) rfl (.inl rfl))) (ped_int)) (ped_var (pe_var (i := 2) rfl (.inl rfl)))) (pad_nil))) (ped_int))))) (psd_one (psd_ret (ped_disp (ppsd_cons (ped_str) (ped_t1 cald_list rfl M.b_list boot_list (pad_cons (ped_var (pe_var (i := 0) rfl (.inl rfl))) (pad_nil))) (ppsd_cons (ped_str) (ped_int) (ppsd_cons (ped_str) (ped_int) (ppsd_cons (ped_str) (ped_int) (ppsd_cons (ped_str) (ped_var (pe_var (i := 1) rfl (.inl rfl))) (ppsd_nil)))))) (fun z => nomatch z) (by decide)))))
theorem cal0__law_pen (M : Md w K mg) : CalG P w K mg base 1 "_law_pen" 1 (fnRun N__law_pen.length m__law_pen) := by
  obtain ⟨fd, F⟩ := M.d__law_pen
  exact ⟨_, fd, ["script"], fnD F S__law_pen fun cdv A outer s H E C tk hp => b__law_pen M cdv A outer s H E C tk hp, M.g__law_pen, F.kp, FunD.bindsN F fun _ _ _ _ _ _ us hl => match us, hl with | [_], _ => rfl⟩
theorem cal__law_pen (M : Md w K mg) : CalG P w K mg base 1 "_law_pen" 1 ff__law_pen := cal_pen (cal0__law_pen M)
/-! _law_sights -/
def N__law_sights : List Str := ["some", "both", "one", "many"]
def m__law_sights : FSt := sSeq (sAsg (.one 0) (eLst (aCons (eTup (aCons (eTup (aCons (eC (.int 2)) (aCons (eTup (aCons (eTup (aCons (eC (.int 1)) (aCons (eC (.int 2)) (aNil)))) (aNil))) (aCons (eTup (aCons (eTup (aCons (eC (.int 1)) (aCons (eC (.int 3)) (aNil)))) (aNil))) (aNil))))) (aCons (eTup (aCons (eC (.str "see")) (aCons (eC (.int 3)) (aCons (eC (.int 2)) (aNil))))) (aCons (eC (.bool true)) (aNil))))) (aCons (eTup (aCons (eTup (aCons (eC (.int 2)) (aCons (eTup (aCons (eTup (aCons (eC (.int 1)) (aCons (eC (.int 2)) (aNil)))) (aNil))) (aCons (eTup (aCons (eTup (aCons (eC (.int 1)) (aCons (eC (.int 3)) (aNil)))) (aNil))) (aNil))))) (aCons (eTup (aCons (eC (.str "see")) (aCons (eC (.int 3)) (aCons (eC (.int 1)) (aNil))))) (aCons (eC (.bool false)) (aNil))))) (aNil))))) (sSeq (sAsg (.one 0) (eBin gAdd (eVar 0) (eLst (aCons (eTup (aCons (eTup (aCons (eC (.int 2)) (aCons (eTup (aCons (eTup (aCons (eC (.int 1)) (aCons (eC (.int 2)) (aNil)))) (aNil))) (aCons (eTup (aCons (eTup (aCons (eC (.int 2)) (aNil))) (aCons (eTup (aCons (eC (.int 1)) (aCons (eC (.int 3)) (aNil)))) (aNil)))) (aNil))))) (aCons (eTup (aCons (eC (.str "see")) (aCons (eC (.int 3)) (aCons (eC (.int 2)) (aNil))))) (aCons (eC (.bool true)) (aNil))))) (aCons (eTup (aCons (eTup (aCons (eC (.int 2)) (aCons (eTup (aCons (eTup (aCons (eC (.int 1)) (aNil))) (aNil))) (aCons (eTup (aNil)) (aNil))))) (aCons (eTup (aCons (eC (.str "see")) (aCons (eC (.int 3)) (aCons (eC (.int 2)) (aNil))))) (aCons (eC (.bool false)) (aNil))))) (aNil)))))) (sSeq (sAsg (.one 0) (eBin gAdd (eVar 0) (eLst (aCons (eTup (aCons (eTup (aCons (eC (.int 2)) (aCons (eTup (aCons (eTup (aCons (eC (.int 1)) (aNil))) (aNil))) (aCons (eTup (aNil)) (aNil))))) (aCons (eTup (aCons (eC (.str "see")) (aCons (eC (.int 3)) (aCons (eC (.int 1)) (aNil))))) (aCons (eC (.bool true)) (aNil))))) (aCons (eTup (aCons (eTup (aCons (eC (.int 2)) (aCons (eTup (aCons (eTup (aCons (eC (.int 1)) (aNil))) (aNil))) (aCons (eTup (aNil)) (aNil))))) (aCons (eTup (aCons (eC (.str "see")) (aCons (eC (.int 2)) (aCons (eC (.int 1)) (aNil))))) (aCons (eC (.bool false)) (aNil))))) (aNil)))))) (sSeq (sAsg (.one 0) (eBin gAdd (eVar 0) (eLst (aCons (eTup (aCons (eTup (aCons (eC (.int 2)) (aCons (eTup (aCons (eTup (aCons (eC (.int 1)) (aNil))) (aNil))) (aCons (eTup (aNil)) (aNil))))) (aCons (eTup (aCons (eC (.str "see")) (aCons (eC (.int 4)) (aCons (eC (.int 1)) (aNil))))) (aCons (eC (.bool false)) (aNil))))) (aCons (eTup (aCons (eTup (aCons (eC (.int 2)) (aCons (eTup (aCons (eTup (aCons (eC (.int 1)) (aCons (eC (.int 2)) (aNil)))) (aNil))) (aCons (eTup (aCons (eTup (aCons (eUn gNeg (eC (.int 2))) (aCons (eC (.int 3)) (aNil)))) (aNil))) (aNil))))) (aCons (eTup (aCons (eC (.str "see")) (aCons (eC (.int 3)) (aCons (eC (.int 2)) (aNil))))) (aCons (eC (.bool false)) (aNil))))) (aNil)))))) (sSeq (sAsg (.tup [1, 2]) (eTup (aCons (eTup (aCons (eTup (aCons (eC (.int 1)) (aCons (eC (.int 2)) (aNil)))) (aCons (eTup (aCons (eC (.int 2)) (aNil))) (aNil)))) (aCons (eTup (aCons (eTup (aCons (eC (.int 1)) (aCons (eC (.int 2)) (aNil)))) (aCons (eTup (aCons (eC (.int 1)) (aNil))) (aNil)))) (aNil))))) (sSeq (sAsg (.one 0) (eBin gAdd (eVar 0) (eLst (aCons (eTup (aCons (eTup (aCons (eC (.int 2)) (aCons (eVar 1) (aCons (eTup (aCons (eTup (aCons (eC (.int 2)) (aCons (eC (.int 4)) (aNil)))) (aCons (eTup (aCons (eC (.int 3)) (aCons (eC (.int 4)) (aNil)))) (aNil)))) (aNil))))) (aCons (eTup (aCons (eC (.str "see")) (aCons (eC (.int 3)) (aCons (eC (.int 2)) (aNil))))) (aCons (eC (.bool false)) (aNil))))) (aCons (eTup (aCons (eTup (aCons (eC (.int 2)) (aCons (eVar 1) (aCons (eTup (aCons (eTup (aCons (eC (.int 3)) (aCons (eC (.int 4)) (aNil)))) (aNil))) (aNil))))) (aCons (eTup (aCons (eC (.str "see")) (aCons (eC (.int 3)) (aCons (eC (.int 2)) (aNil))))) (aCons (eC (.bool true)) (aNil))))) (aNil)))))) (sSeq (sAsg (.one 0) (eBin gAdd (eVar 0) (eLst (aCons (eTup (aCons (eTup (aCons (eC (.int 2)) (aCons (eVar 2) (aCons (eTup (aCons (eTup (aCons (eC (.int 2)) (aCons (eC (.int 4)) (aNil)))) (aCons (eTup (aCons (eC (.int 3)) (aCons (eC (.int 4)) (aNil)))) (aNil)))) (aNil))))) (aCons (eTup (aCons (eC (.str "see")) (aCons (eC (.int 3)) (aCons (eC (.int 2)) (aNil))))) (aCons (eC (.bool true)) (aNil))))) (aNil))))) (sSeq (sAsg (.one 0) (eBin gAdd (eVar 0) (eLst (aCons (eTup (aCons (eTup (aCons (eC (.int 2)) (aCons (eVar 1) (aCons (eTup (aCons (eTup (aCons (eC (.int 2)) (aCons (eC (.int 4)) (aNil)))) (aCons (eTup (aCons (eC (.int 1)) (aCons (eC (.int 3)) (aNil)))) (aNil)))) (aNil))))) (aCons (eTup (aCons (eC (.str "see")) (aCons (eC (.int 3)) (aCons (eC (.int 2)) (aNil))))) (aCons (eC (.bool true)) (aNil))))) (aNil))))) (sSeq (sAsg (.one 3) (eTup (aCons (eTup (aCons (eC (.int 1)) (aNil))) (aCons (eTup (aCons (eC (.int 1)) (aNil))) (aCons (eTup (aCons (eC (.int 1)) (aNil))) (aNil)))))) (sSeq (sAsg (.one 0) (eBin gAdd (eVar 0) (eLst (aCons (eTup (aCons (eTup (aCons (eC (.int 1)) (aCons (eVar 3) (aCons (eTup (aCons (eTup (aCons (eC (.int 1)) (aCons (eC (.int 4)) (aNil)))) (aCons (eTup (aCons (eC (.int 2)) (aCons (eC (.int 3)) (aNil)))) (aCons (eTup (aCons (eC (.int 3)) (aCons (eC (.int 4)) (aNil)))) (aNil))))) (aNil))))) (aCons (eTup (aCons (eC (.str "see")) (aCons (eC (.int 2)) (aCons (eC (.int 1)) (aNil))))) (aCons (eC (.bool false)) (aNil))))) (aNil))))) (sSeq (sAsg (.one 0) (eBin gAdd (eVar 0) (eLst (aCons (eTup (aCons (eTup (aCons (eC (.int 1)) (aCons (eVar 3) (aCons (eTup (aCons (eTup (aCons (eC (.int 1)) (aCons (eC (.int 4)) (aNil)))) (aCons (eTup (aCons (eC (.int 2)) (aCons (eC (.int 3)) (aNil)))) (aNil)))) (aNil))))) (aCons (eTup (aCons (eC (.str "see")) (aCons (eC (.int 2)) (aCons (eC (.int 1)) (aNil))))) (aCons (eC (.bool true)) (aNil))))) (aNil))))) (sSeq (sAsg (.one 0) (eBin gAdd (eVar 0) (eLst (aCons (eTup (aCons (eTup (aCons (eC (.int 1)) (aCons (eVar 3) (aCons (eTup (aCons (eTup (aCons (eC (.int 1)) (aCons (eC (.int 4)) (aNil)))) (aCons (eTup (aCons (eC (.int 2)) (aCons (eC (.int 3)) (aNil)))) (aNil)))) (aNil))))) (aCons (eTup (aCons (eC (.str "see")) (aCons (eC (.int 4)) (aCons (eC (.int 1)) (aNil))))) (aCons (eC (.bool false)) (aNil))))) (aNil))))) (sRet (eBin gAdd (eVar 0) (eLst (aCons (eTup (aCons (eTup (aCons (eC (.int 1)) (aCons (eTup (aCons (eTup (aCons (eC (.int 1)) (aNil))) (aCons (eTup (aNil)) (aCons (eTup (aCons (eC (.int 1)) (aNil))) (aNil))))) (aCons (eTup (aCons (eTup (aCons (eC (.int 1)) (aCons (eC (.int 4)) (aNil)))) (aCons (eTup (aCons (eC (.int 2)) (aCons (eC (.int 3)) (aNil)))) (aCons (eTup (aCons (eC (.int 3)) (aCons (eC (.int 4)) (aNil)))) (aNil))))) (aNil))))) (aCons (eTup (aCons (eC (.str "see")) (aCons (eC (.int 2)) (aCons (eC (.int 1)) (aNil))))) (aCons (eC (.bool true)) (aNil))))) (aNil))))))))))))))))
def ff__law_sights : FF := fnRun N__law_sights.length m__law_sights
theorem S__law_sights : FnScope N__law_sights [] (defScope (top 60)) := C8.fnScope_by (by decide +kernel)
theorem b__law_sights {fa : Addr} (M : Md w K mg) (cdv : Value) (A : Around) (outer : List Env) (s : Shared) (H : Hp) (E : XK)
    (C : Ctx (cxOf (L2.CX P w) P w K mg base N__law_sights "_law_sights" (defScope (top 60)) fa cdv A outer s H E) 0) (tk : Takes (cxOf (L2.CX P w) P w K mg base N__law_sights "_law_sights" (defScope (top 60)) fa cdv A outer s H E) (fun c d _ H' => E c d H'))
    (hp : PassesOwn (model P w) (A.deeper (envOfC "_law_sights" (defScope (top 60)) s.heap.objs.size fa cdv)) (envOfC "_law_sights" (defScope (top 60)) s.heap.objs.size fa cdv) (cxOf (L2.CX P w) P w K mg base N__law_sights "_law_sights" (defScope (top 60)) fa cdv A outer s H E).xe) :
    PSsD (cxOf (L2.CX P w) P w K mg base N__law_sights "_law_sights" (defScope (top 60)) fa cdv A outer s H E) (fun c d _ H' => E c d H') (defBody (top 60)) m__law_sights := by
  have nd : N__law_sights.Nodup := S__law_sights.nd
  exact psd_cons (psd_set (i := 0) nd rfl (.inl rfl) (ped_lst (pad_cons (ped_tup (pad_cons (ped_tup (pad_cons (ped_int) (pad_cons (ped_tup (pad_cons (ped_tup (pad_cons (ped_int) (pad_cons (ped_int) (pad_nil)))) (pad_nil))) (pad_cons (ped_tup (pad_cons (ped_tup (pad_cons (ped_int) (pad_cons (ped_int) (pad_nil)))) (pad_nil))) (pad_nil))))) (pad_cons (ped_tup (pad_cons (ped_str) (pad_cons (ped_int) (pad_cons (ped_int) (pad_nil))))) (pad_cons (ped_bl) (pad_nil))))) (pad_cons (ped_tup (pad_cons (ped_tup (pad_cons (ped_int) (pad_cons (ped_tup (pad_cons (ped_tup (pad_cons (ped_int) (pad_cons (ped_int) (pad_nil)))) (pad_nil))) (pad_cons (ped_tup (pad_cons (ped_tup (pad_cons (ped_int) (pad_cons (ped_int) (pad_nil)))) (pad_nil))) (pad_nil))))) (pad_cons (ped_tup (pad_cons (ped_str) (pad_cons (ped_int) (pad_cons (ped_int) (pad_nil))))) (pad_cons (ped_bl) (pad_nil))))) (pad_nil))))) (psd_cons (psd_set (i := 0) nd rfl (.inl rfl) (ped_bin opd_add (ped_var (pe_var (i := 0) rfl (.inl rfl))) (ped_lst (pad_cons (ped_tup (pad_cons (ped_tup (pad_cons (ped_int) (pad_cons (ped_tup (pad_cons (ped_tup (pad_cons (ped_int) (pad_cons (ped_int) (pad_nil)))) (pad_nil))) (pad_cons (ped_tup (pad_cons (ped_tup (pad_cons (ped_int) (pad_nil))) (pad_cons (ped_tup (pad_cons (ped_int) (pad_cons (ped_int) (pad_nil)))) (pad_nil)))) (pad_nil))))) (pad_cons (ped_tup (pad_cons (ped_str) (pad_cons (ped_int) (pad_cons (ped_int) (pad_nil))))) (pad_cons (ped_bl) (pad_nil))))) (pad_cons (ped_tup (pad_cons (ped_tup (pad_cons (ped_int) (pad_cons (ped_tup (pad_cons (ped_tup (pad_cons (ped_int) (pad_nil))) (pad_nil))) (pad_cons (ped_tup (pad_nil)) (pad_nil))))) (pad_cons (ped_tup (pad_cons (ped_str) (pad_cons (ped_int) (pad_cons (ped_int) (pad_nil))))) (pad_cons (ped_bl) (pad_nil))))) (pad_nil)))))) (psd_cons (psd_set (i := 0) nd rfl (.inl rfl) (ped_bin opd_add (ped_var (pe_var (i := 0) rfl (.inl rfl))) (ped_lst (pad_cons (ped_tup (pad_cons (ped_tup (pad_cons (ped_int) (pad_cons (ped_tup (pad_cons (ped_tup (pad_cons (ped_int) (pad_nil))) (pad_nil))) (pad_cons (ped_tup (pad_nil)) (pad_nil))))) (pad_cons (ped_tup (pad_cons (ped_str) (pad_cons (ped_int) (pad_cons (ped_int) (pad_nil))))) (pad_cons (ped_bl) (pad_nil))))) (pad_cons (ped_tup (pad_cons (ped_tup (pad_cons (ped_int) (pad_cons (ped_tup (pad_cons (ped_tup (pad_cons (ped_int) (pad_nil))) (pad_nil))) (pad_cons (ped_tup (pad_nil)) (pad_nil))))) (pad_cons (ped_tup (pad_cons (ped_str) (pad_cons (ped_int) (pad_cons (ped_int) (pad_nil))))) (pad_cons (ped_bl) (pad_nil))))) (pad_nil)))))) (psd_cons (psd_set (i := 0) nd rfl (.inl rfl) (ped_bin opd_add (ped_var (pe_var (i := 0) rfl (.inl rfl))) (ped_lst (pad_cons (ped_tup (pad_cons (ped_tup (pad_cons (ped_int) (pad_cons (ped_tup (pad_cons (ped_tup (pad_cons (ped_int) (pad_nil))) (pad_nil))) (pad_cons (ped_tup (pad_nil)) (pad_nil))))) (pad_cons (ped_tup (pad_cons (ped_str) (pad_cons (ped_int) (pad_cons (ped_int) (pad_nil))))) (pad_cons (ped_bl) (pad_nil))))) (pad_cons (ped_tup (pad_cons (ped_tup (pad_cons (ped_int) (pad_cons (ped_tup (pad_cons (ped_tup (pad_cons (ped_int) (pad_cons (ped_int) (pad_nil)))) (pad_nil))) (pad_cons (ped_tup (pad_cons (ped_tup (pad_cons (ped_neg (ped_int)) (pad_cons (ped_int) (pad_nil)))) (pad_nil))) (pad_nil))))) (pad_cons (ped_tup (pad_cons (ped_str) (pad_cons (ped_int) (pad_cons (ped_int) (pad_nil))))) (pad_cons (ped_bl) (pad_nil))))) (pad_nil)))))) (psd_cons (psd_asg (ped_tup (pad_cons (ped_tup (pad_cons (ped_tup (pad_cons (ped_int) (pad_cons (ped_int) (pad_nil)))) (pad_cons (ped_tup (pad_cons (ped_int) (pad_nil))) (pad_nil)))) (pad_cons (ped_tup (pad_cons (ped_tup (pad_cons (ped_int) (pad_cons (ped_int) (pad_nil)))) (pad_cons (ped_tup (pad_cons (ped_int) (pad_nil))) (pad_nil)))) (pad_nil)))) (pgd_tup C.calm (pgds_cons (i := 1) nd rfl (.inl rfl) (pgds_cons (i := 2) nd rfl (.inl rfl) (pgds_nil))))) (psd_cons (psd_set (i := 0) nd rfl (.inl rfl) (ped_bin opd_add (ped_var (pe_var (i := 0) rfl (.inl rfl))) (ped_lst (pad_cons (ped_tup (pad_cons (ped_tup (pad_cons (ped_int) (pad_cons (ped_var (pe_var (i := 1) rfl (.inl rfl))) (pad_cons (ped_tup (pad_cons (ped_tup (pad_cons (ped_int) (pad_cons (ped_int) (pad_nil)))) (pad_cons (ped_tup (pad_cons (ped_int) (pad_cons (ped_int) (pad_nil)))) (pad_nil)))) (pad_nil))))) (pad_cons (ped_tup (pad_cons (ped_str) (pad_cons (ped_int) (pad_cons (ped_int) (pad_nil))))) (pad_cons (ped_bl) (pad_nil))))) (pad_cons (ped_tup (pad_cons (ped_tup (pad_cons (ped_int) (pad_cons (ped_var (pe_var (i := 1) rfl (.inl rfl))) (pad_cons (ped_tup (pad_cons (ped_tup (pad_cons (ped_int) (pad_cons (ped_int) (pad_nil)))) (pad_nil))) (pad_nil))))) (pad_cons (ped_tup (pad_cons (ped_str) (pad_cons (ped_int) (pad_cons (ped_int) (pad_nil))))) (pad_cons (ped_bl) (pad_nil))))) (pad_nil)))))) (psd_cons (psd_set (i := 0) nd rfl (.inl rfl) (ped_bin opd_add (ped_var (pe_var (i := 0) rfl (.inl rfl))) (ped_lst (pad_cons (ped_tup (pad_cons (ped_tup (pad_cons (ped_int) (pad_cons (ped_var (pe_var (i := 2) rfl (.inl rfl))) (pad_cons (ped_tup (pad_cons (ped_tup (pad_cons (ped_int) (pad_cons (ped_int) (pad_nil)))) (pad_cons (ped_tup (pad_cons (ped_int) (pad_cons (ped_int) (pad_nil)))) (pad_nil)))) (pad_nil))))) (pad_cons (ped_tup (pad_cons (ped_str) (pad_cons (ped_int) (pad_cons (ped_int) (pad_nil))))) (pad_cons (ped_bl) (pad_nil))))) (pad_nil))))) (psd_cons (psd_set (i := 0) nd rfl (.inl rfl) (ped_bin opd_add (ped_var (pe_var (i := 0) rfl (.inl rfl))) (ped_lst (pad_cons (ped_tup (pad_cons (ped_tup (pad_cons (ped_int) (pad_cons (ped_var (pe_var (i := 1) rfl (.inl rfl))) (pad_cons (ped_tup (pad_cons (ped_tup (pad_cons (ped_int) (pad_cons (ped_int) (pad_nil)))) (pad_cons (ped_tup (pad_cons (ped_int) (pad_cons (ped_int) (pad_nil)))) (pad_nil)))) (pad_nil))))) (pad_cons (ped_tup (pad_cons (ped_str) (pad_cons (ped_int) (pad_cons (ped_int) (pad_nil))))) (pad_cons (ped_bl) (pad_nil))))) (pad_nil))))) (psd_cons (psd_set (i := 3) nd rfl (.inl rfl) (ped_tup (pad_cons (ped_tup (pad_cons (ped_int) (pad_nil))) (pad_cons (ped_tup (pad_cons (ped_int) (pad_nil))) (pad_cons (ped_tup (pad_cons (ped_int) (pad_nil))) (pad_nil)))))) (psd_cons (psd_set (i := 0) nd rfl (.inl rfl) (ped_bin opd_add (ped_var (pe_var (i := 0) rfl (.inl rfl))) (ped_lst (pad_cons (ped_tup (pad_cons (ped_tup (pad_cons (ped_int) (pad_cons (ped_var (pe_var (i := 3) rfl (.inl rfl))) (pad_cons (ped_tup (pad_cons (ped_tup (pad_cons (ped_int) (pad_cons (ped_int) (pad_nil)))) (pad_cons (ped_tup (pad_cons (ped_int) (pad_cons (ped_int) (pad_nil)))) (pad_cons (ped_tup (pad_cons (ped_int) (pad_cons (ped_int) (pad_nil)))) (pad_nil))))) (pad_nil))))) (pad_cons (ped_tup (pad_cons (ped_str) (pad_cons (ped_int) (pad_cons (ped_int) (pad_nil))))) (pad_cons (ped_bl) (pad_nil))))) (pad_nil))))) (psd_cons (psd_set (i := 0) nd rfl (.inl rfl) (ped_bin opd_add (ped_var (pe_var (i := 0) rfl (.inl rfl))) (ped_lst (pad_cons (ped_tup (pad_cons (ped_tup (pad_cons (ped_int) (pad_cons (ped_var (pe_var (i := 3) rfl (.inl rfl))) (pad_cons (ped_tup (pad_cons (ped_tup (pad_cons (ped_int) (pad_cons (ped_int) (pad_nil)))) (pad_cons (ped_tup (pad_cons (ped_int) (pad_cons (ped_int) (pad_nil)))) (pad_nil)))) (pad_nil))))) (pad_cons (ped_tup (pad_cons (ped_str) (pad_cons (ped_int) (pad_cons (ped_int) (pad_nil))))) (pad_cons (ped_bl) (pad_nil))))) (pad_nil))))) (psd_cons (psd_set (i := 0) nd rfl (.inl rfl) (ped_bin opd_add (ped_var (pe_var (i := 0) rfl (.inl rfl))) (ped_lst (pad_cons (ped_tup (pad_cons (ped_tup (pad_cons (ped_int) (pad_cons (ped_var (pe_var (i := 3) rfl (.inl rfl))) (pad_cons (ped_tup (pad_cons (ped_tup (pad_cons (ped_int) (pad_cons (ped_int) (pad_nil)))) (pad_cons (ped_tup (pad_cons (ped_int) (pad_cons (ped_int) (pad_nil)))) (pad_nil)))) (pad_nil))))) (pad_cons (ped_tup (pad_cons (ped_str) (pad_cons (ped_int) (pad_cons (ped_int) (pad_nil))))) (pad_cons (ped_bl) (pad_nil))))) (pad_nil))))) (psd_one (psd_ret (ped_bin opd_add (ped_var (pe_var (i := 0) rfl (.inl rfl))) (ped_lst (pad_cons (ped_tup (pad_cons (ped_tup (pad_cons (ped_int) (pad_cons (ped_tup (pad_cons (ped_tup (pad_cons (ped_int) (pad_nil))) (pad_cons (ped_tup (pad_nil)) (pad_cons (ped_tup (pad_cons (ped_int) (pad_nil))) (pad_nil))))) (pad_cons (ped_tup (pad_cons (ped_tup (pad_cons (ped_int) (pad_cons (ped_int) (pad_nil)))) (pad_cons (ped_tup (pad_cons (ped_int) (pad_cons (ped_int) (pad_nil)))) (pad_cons (ped_tup (pad_cons (ped_int) (pad_cons (ped_int) (pad_nil)))) (pad_nil))))) (pad_nil))))) (pad_cons (ped_tup (pad_cons (ped_str) (pad_cons (ped_int) (pad_cons (ped_int) (pad_nil))))) (pad_cons (ped_bl) (pad_nil))))) (pad_nil)))))))))))))))))
theorem cal__law_sights (M : Md w K mg) : CalG P w K mg base 1 "_law_sights" 0 ff__law_sights := by
  obtain ⟨fd, F⟩ := M.d__law_sights
  exact ⟨_, fd, [], fnD F S__law_sights fun cdv A outer s H E C tk hp => b__law_sights M cdv A outer s H E C tk hp, M.g__law_sights, F.kp, FunD.bindsN F fun _ _ _ _ _ _ us hl => match us, hl with | [], _ => rfl⟩
/-! _law_units -/
def N__law_units : List Str := ["some", "two", "pair", "far"]
def m__law_units : FSt := sSeq (sAsg (.one 0) (eLst (aCons (eTup (aCons (eTup (aCons (eC (.int 1)) (aCons (eTup (aCons (eTup (aCons (eC (.int 1)) (aNil))) (aNil))) (aCons (eTup (aCons (eTup (aCons (eC (.int 1)) (aCons (eC (.int 2)) (aNil)))) (aCons (eTup (aCons (eC (.int 2)) (aNil))) (aNil)))) (aNil))))) (aCons (eTup (aCons (eC (.str "unit")) (aCons (eC (.int 1)) (aNil)))) (aCons (eTup (aNil)) (aNil))))) (aNil)))) (sSeq (sAsg (.one 0) (eBin gAdd (eVar 0) (eLst (aCons (eTup (aCons (eTup (aCons (eC (.int 1)) (aCons (eTup (aCons (eTup (aCons (eC (.int 1)) (aNil))) (aNil))) (aCons (eTup (aCons (eTup (aCons (eC (.int 2)) (aNil))) (aNil))) (aNil))))) (aCons (eTup (aCons (eC (.str "unit")) (aCons (eC (.int 0)) (aNil)))) (aCons (eTup (aNil)) (aNil))))) (aCons (eTup (aCons (eTup (aCons (eC (.int 1)) (aCons (eTup (aCons (eTup (aCons (eC (.int 1)) (aNil))) (aNil))) (aCons (eTup (aCons (eTup (aCons (eC (.int 1)) (aNil))) (aNil))) (aNil))))) (aCons (eTup (aCons (eC (.str "unit")) (aCons (eC (.int 0)) (aNil)))) (aCons (eC .none) (aNil))))) (aNil)))))) (sSeq (sAsg (.one 0) (eBin gAdd (eVar 0) (eLst (aCons (eTup (aCons (eTup (aCons (eC (.int 1)) (aCons (eTup (aCons (eTup (aCons (eC (.int 1)) (aNil))) (aNil))) (aCons (eTup (aCons (eTup (aCons (eC (.int 1)) (aCons (eC (.int 2)) (aNil)))) (aNil))) (aNil))))) (aCons (eTup (aCons (eC (.str "unit")) (aCons (eC (.int 0)) (aNil)))) (aCons (eC .none) (aNil))))) (aCons (eTup (aCons (eTup (aCons (eC (.int 1)) (aCons (eTup (aCons (eTup (aCons (eC (.int 1)) (aNil))) (aNil))) (aCons (eTup (aCons (eTup (aCons (eC (.int 2)) (aNil))) (aNil))) (aNil))))) (aCons (eTup (aCons (eC (.str "unit")) (aCons (eC (.int 1)) (aNil)))) (aCons (eC .none) (aNil))))) (aNil)))))) (sSeq (sAsg (.one 0) (eBin gAdd (eVar 0) (eLst (aCons (eTup (aCons (eTup (aCons (eC (.int 0)) (aCons (eTup (aCons (eTup (aNil)) (aCons (eTup (aNil)) (aNil)))) (aCons (eTup (aCons (eTup (aCons (eUn gNeg (eC (.int 1))) (aCons (eC (.int 2)) (aNil)))) (aCons (eTup (aCons (eC (.int 1)) (aNil))) (aNil)))) (aNil))))) (aCons (eTup (aCons (eC (.str "unit")) (aCons (eC (.int 1)) (aNil)))) (aCons (eTup (aCons (eTup (aCons (eC (.int 2)) (aNil))) (aNil))) (aNil))))) (aNil))))) (sSeq (sAsg (.one 0) (eBin gAdd (eVar 0) (eLst (aCons (eTup (aCons (eTup (aCons (eC (.int 0)) (aCons (eTup (aCons (eTup (aNil)) (aCons (eTup (aNil)) (aNil)))) (aCons (eTup (aCons (eTup (aCons (eUn gNeg (eC (.int 1))) (aNil))) (aCons (eTup (aCons (eC (.int 1)) (aNil))) (aNil)))) (aNil))))) (aCons (eTup (aCons (eC (.str "unit")) (aCons (eC (.int 0)) (aNil)))) (aCons (eTup (aCons (eTup (aNil)) (aNil))) (aNil))))) (aCons (eTup (aCons (eTup (aCons (eC (.int 1)) (aCons (eTup (aCons (eTup (aCons (eC (.int 1)) (aNil))) (aNil))) (aCons (eTup (aCons (eTup (aNil)) (aNil))) (aNil))))) (aCons (eTup (aCons (eC (.str "unit")) (aCons (eC (.int 0)) (aNil)))) (aCons (eC .none) (aNil))))) (aNil)))))) (sSeq (sAsg (.one 1) (eTup (aCons (eTup (aCons (eC (.int 1)) (aNil))) (aCons (eTup (aCons (eC (.int 2)) (aNil))) (aNil))))) (sSeq (sAsg (.one 0) (eBin gAdd (eVar 0) (eLst (aCons (eTup (aCons (eTup (aCons (eC (.int 2)) (aCons (eVar 1) (aCons (eTup (aCons (eTup (aCons (eC (.int 2)) (aCons (eC (.int 3)) (aNil)))) (aNil))) (aNil))))) (aCons (eTup (aCons (eC (.str "drop")) (aCons (eC (.int 0)) (aCons (eC (.int 2)) (aNil))))) (aCons (eTup (aCons (eTup (aCons (eC (.int 3)) (aNil))) (aNil))) (aNil))))) (aCons (eTup (aCons (eTup (aCons (eC (.int 2)) (aCons (eVar 1) (aCons (eTup (aCons (eTup (aCons (eC (.int 2)) (aCons (eC (.int 4)) (aNil)))) (aNil))) (aNil))))) (aCons (eTup (aCons (eC (.str "drop")) (aCons (eC (.int 0)) (aCons (eC (.int 2)) (aNil))))) (aCons (eC .none) (aNil))))) (aNil)))))) (sSeq (sAsg (.one 0) (eBin gAdd (eVar 0) (eLst (aCons (eTup (aCons (eTup (aCons (eC (.int 2)) (aCons (eVar 1) (aCons (eTup (aCons (eTup (aCons (eC (.int 2)) (aCons (eC (.int 3)) (aNil)))) (aNil))) (aNil))))) (aCons (eTup (aCons (eC (.str "drop")) (aCons (eC (.int 0)) (aCons (eC (.int 1)) (aNil))))) (aCons (eC .none) (aNil))))) (aCons (eTup (aCons (eTup (aCons (eC (.int 2)) (aCons (eVar 1) (aCons (eTup (aCons (eTup (aCons (eC (.int 2)) (aCons (eC (.int 3)) (aCons (eC (.int 4)) (aNil))))) (aNil))) (aNil))))) (aCons (eTup (aCons (eC (.str "drop")) (aCons (eC (.int 0)) (aCons (eC (.int 2)) (aNil))))) (aCons (eC .none) (aNil))))) (aNil)))))) (sSeq (sAsg (.one 0) (eBin gAdd (eVar 0) (eLst (aCons (eTup (aCons (eTup (aCons (eC (.int 2)) (aCons (eVar 1) (aCons (eTup (aCons (eTup (aCons (eC (.int 1)) (aCons (eUn gNeg (eC (.int 2))) (aNil)))) (aNil))) (aNil))))) (aCons (eTup (aCons (eC (.str "drop")) (aCons (eC (.int 0)) (aCons (eC (.int 1)) (aNil))))) (aCons (eTup (aCons (eTup (aCons (eUn gNeg (eC (.int 2))) (aNil))) (aNil))) (aNil))))) (aCons (eTup (aCons (eTup (aCons (eC (.int 2)) (aCons (eVar 1) (aCons (eTup (aCons (eTup (aCons (eC (.int 2)) (aCons (eC (.int 3)) (aNil)))) (aCons (eTup (aCons (eC (.int 3)) (aNil))) (aNil)))) (aNil))))) (aCons (eTup (aCons (eC (.str "drop")) (aCons (eC (.int 1)) (aCons (eC (.int 2)) (aNil))))) (aCons (eC .none) (aNil))))) (aNil)))))) (sSeq (sAsg (.one 0) (eBin gAdd (eVar 0) (eLst (aCons (eTup (aCons (eTup (aCons (eC (.int 2)) (aCons (eVar 1) (aCons (eTup (aCons (eTup (aCons (eC (.int 2)) (aCons (eC (.int 3)) (aNil)))) (aCons (eTup (aCons (eC (.int 3)) (aNil))) (aNil)))) (aNil))))) (aCons (eTup (aCons (eC (.str "drop")) (aCons (eC (.int 0)) (aCons (eC (.int 2)) (aNil))))) (aCons (eTup (aCons (eTup (aCons (eC (.int 3)) (aNil))) (aNil))) (aNil))))) (aCons (eTup (aCons (eTup (aCons (eC (.int 2)) (aCons (eVar 1) (aCons (eTup (aCons (eTup (aCons (eC (.int 2)) (aCons (eC (.int 3)) (aNil)))) (aNil))) (aNil))))) (aCons (eTup (aCons (eC (.str "drop")) (aCons (eC (.int 0)) (aCons (eC (.int 3)) (aNil))))) (aCons (eC .none) (aNil))))) (aNil)))))) (sSeq (sAsg (.tup [2, 3]) (eTup (aCons (eTup (aCons (eTup (aCons (eC (.int 1)) (aCons (eC (.int 3)) (aNil)))) (aCons (eTup (aCons (eC (.int 3)) (aNil))) (aNil)))) (aCons (eTup (aCons (eTup (aCons (eC (.int 1)) (aCons (eC (.int 3)) (aNil)))) (aCons (eTup (aCons (eC (.int 2)) (aCons (eC (.int 4)) (aNil)))) (aNil)))) (aNil))))) (sSeq (sAsg (.one 0) (eBin gAdd (eVar 0) (eLst (aCons (eTup (aCons (eTup (aCons (eC (.int 2)) (aCons (eVar 1) (aCons (eVar 2) (aNil))))) (aCons (eTup (aCons (eC (.str "cover")) (aCons (eC (.int 1)) (aCons (eC (.int 0)) (aNil))))) (aCons (eTup (aCons (eTup (aCons (eC (.int 3)) (aNil))) (aNil))) (aNil))))) (aCons (eTup (aCons (eTup (aCons (eC (.int 2)) (aCons (eVar 1) (aCons (eVar 2) (aNil))))) (aCons (eTup (aCons (eC (.str "cover")) (aCons (eC (.int 0)) (aCons (eC (.int 1)) (aNil))))) (aCons (eC .none) (aNil))))) (aNil)))))) (sSeq (sAsg (.one 0) (eBin gAdd (eVar 0) (eLst (aCons (eTup (aCons (eTup (aCons (eC (.int 2)) (aCons (eVar 1) (aCons (eTup (aCons (eTup (aCons (eUn gNeg (eC (.int 3))) (aNil))) (aCons (eTup (aCons (eC (.int 1)) (aCons (eC (.int 3)) (aNil)))) (aNil)))) (aNil))))) (aCons (eTup (aCons (eC (.str "cover")) (aCons (eC (.int 0)) (aCons (eC (.int 1)) (aNil))))) (aCons (eC .none) (aNil))))) (aCons (eTup (aCons (eTup (aCons (eC (.int 2)) (aCons (eVar 1) (aCons (eTup (aCons (eTup (aNil)) (aCons (eTup (aCons (eC (.int 1)) (aCons (eC (.int 3)) (aNil)))) (aNil)))) (aNil))))) (aCons (eTup (aCons (eC (.str "cover")) (aCons (eC (.int 0)) (aCons (eC (.int 1)) (aNil))))) (aCons (eTup (aCons (eTup (aNil)) (aNil))) (aNil))))) (aNil)))))) (sSeq (sAsg (.one 0) (eBin gAdd (eVar 0) (eLst (aCons (eTup (aCons (eTup (aCons (eC (.int 2)) (aCons (eVar 1) (aCons (eTup (aCons (eTup (aCons (eC (.int 3)) (aNil))) (aNil))) (aNil))))) (aCons (eTup (aCons (eC (.str "cover")) (aCons (eC (.int 0)) (aCons (eC (.int 0)) (aNil))))) (aCons (eC .none) (aNil))))) (aNil))))) (sSeq (sAsg (.one 0) (eBin gAdd (eVar 0) (eLst (aCons (eTup (aCons (eTup (aCons (eC (.int 2)) (aCons (eVar 1) (aCons (eTup (aCons (eTup (aCons (eC (.int 1)) (aCons (eC (.int 3)) (aCons (eC (.int 4)) (aNil))))) (aCons (eTup (aCons (eC (.int 1)) (aCons (eC (.int 4)) (aNil)))) (aNil)))) (aNil))))) (aCons (eTup (aCons (eC (.str "cover")) (aCons (eC (.int 1)) (aCons (eC (.int 0)) (aNil))))) (aCons (eTup (aCons (eTup (aCons (eC (.int 1)) (aCons (eC (.int 4)) (aNil)))) (aNil))) (aNil))))) (aCons (eTup (aCons (eTup (aCons (eC (.int 2)) (aCons (eVar 1) (aCons (eVar 2) (aNil))))) (aCons (eTup (aCons (eC (.str "cover")) (aCons (eC (.int 2)) (aCons (eC (.int 0)) (aNil))))) (aCons (eC .none) (aNil))))) (aNil)))))) (sSeq (sAsg (.one 0) (eBin gAdd (eVar 0) (eLst (aCons (eTup (aCons (eTup (aCons (eC (.int 2)) (aCons (eVar 1) (aCons (eVar 3) (aNil))))) (aCons (eTup (aCons (eC (.str "pure")) (aCons (eC (.int 3)) (aNil)))) (aCons (eTup (aCons (eTup (aCons (eC (.int 2)) (aCons (eC (.int 4)) (aNil)))) (aNil))) (aNil))))) (aCons (eTup (aCons (eTup (aCons (eC (.int 2)) (aCons (eVar 1) (aCons (eTup (aCons (eTup (aCons (eC (.int 1)) (aCons (eC (.int 3)) (aNil)))) (aCons (eTup (aCons (eC (.int 2)) (aCons (eUn gNeg (eC (.int 3))) (aNil)))) (aNil)))) (aNil))))) (aCons (eTup (aCons (eC (.str "pure")) (aCons (eC (.int 3)) (aNil)))) (aCons (eC .none) (aNil))))) (aNil)))))) (sSeq (sAsg (.one 0) (eBin gAdd (eVar 0) (eLst (aCons (eTup (aCons (eTup (aCons (eC (.int 2)) (aCons (eVar 1) (aCons (eVar 3) (aNil))))) (aCons (eTup (aCons (eC (.str "pure")) (aCons (eUn gNeg (eC (.int 3))) (aNil)))) (aCons (eC .none) (aNil))))) (aCons (eTup (aCons (eTup (aCons (eC (.int 2)) (aCons (eVar 1) (aCons (eTup (aCons (eTup (aCons (eC (.int 1)) (aCons (eC (.int 3)) (aNil)))) (aCons (eTup (aCons (eC (.int 1)) (aCons (eC (.int 4)) (aNil)))) (aNil)))) (aNil))))) (aCons (eTup (aCons (eC (.str "pure")) (aCons (eC (.int 1)) (aNil)))) (aCons (eTup (aCons (eTup (aCons (eC (.int 3)) (aNil))) (aCons (eTup (aCons (eC (.int 4)) (aNil))) (aNil)))) (aNil))))) (aNil)))))) (sRet (eBin gAdd (eVar 0) (eLst (aCons (eTup (aCons (eTup (aCons (eC (.int 2)) (aCons (eVar 1) (aCons (eTup (aCons (eTup (aCons (eC (.int 1)) (aCons (eC (.int 3)) (aNil)))) (aCons (eTup (aCons (eUn gNeg (eC (.int 1))) (aCons (eC (.int 4)) (aNil)))) (aNil)))) (aNil))))) (aCons (eTup (aCons (eC (.str "pure")) (aCons (eC (.int 1)) (aNil)))) (aCons (eC .none) (aNil))))) (aCons (eTup (aCons (eTup (aCons (eC (.int 2)) (aCons (eVar 1) (aCons (eTup (aCons (eTup (aCons (eC (.int 1)) (aCons (eC (.int 3)) (aNil)))) (aCons (eTup (aCons (eC (.int 3)) (aNil))) (aNil)))) (aNil))))) (aCons (eTup (aCons (eC (.str "pure")) (aCons (eC (.int 1)) (aNil)))) (aCons (eTup (aCons (eTup (aCons (eC (.int 3)) (aNil))) (aNil))) (aNil))))) (aNil))))))))))))))))))))))
def ff__law_units : FF := fnRun N__law_units.length m__law_units
theorem S__law_units : FnScope N__law_units [] (defScope (top 58)) := C8.fnScope_by (by decide +kernel)
theorem b__law_units {fa : Addr} (M : Md w K mg) (cdv : Value) (A : Around) (outer : List Env) (s : Shared) (H : Hp) (E : XK)
    (C : Ctx (cxOf (L2.CX P w) P w K mg base N__law_units "_law_units" (defScope (top 58)) fa cdv A outer s H E) 0) (tk : Takes (cxOf (L2.CX P w) P w K mg base N__law_units "_law_units" (defScope (top 58)) fa cdv A outer s H E) (fun c d _ H' => E c d H'))
    (hp : PassesOwn (model P w) (A.deeper (envOfC "_law_units" (defScope (top 58)) s.heap.objs.size fa cdv)) (envOfC "_law_units" (defScope (top 58)) s.heap.objs.size fa cdv) (cxOf (L2.CX P w) P w K mg base N__law_units "_law_units" (defScope (top 58)) fa cdv A outer s H E).xe) :
    PSsD (cxOf (L2.CX P w) P w K mg base N__law_units "_law_units" (defScope (top 58)) fa cdv A outer s H E) (fun c d _ H' => E c d H') (defBody (top 58)) m__law_units := by
  have nd : N__law_units.Nodup := S__law_units.nd
  exact psd_cons (psd_set (i := 0) nd rfl (.inl rfl) (ped_lst (pad_cons (ped_tup (pad_cons (ped_tup (pad_cons (ped_int) (pad_cons (ped_tup (pad_cons (ped_tup (pad_cons (ped_int) (pad_nil))) (pad_nil))) (pad_cons (ped_tup (pad_cons (ped_tup (pad_cons (ped_int) (pad_cons (ped_int) (pad_nil)))) (pad_cons (ped_tup (pad_cons (ped_int) (pad_nil))) (pad_nil)))) (pad_nil))))) (pad_cons (ped_tup (pad_cons (ped_str) (pad_cons (ped_int) (pad_nil)))) (pad_cons (ped_tup (pad_nil)) (pad_nil))))) (pad_nil)))) (psd_cons (psd_set (i := 0) nd rfl (.inl rfl) (ped_bin opd_add (ped_var (pe_var (i := 0) rfl (.inl rfl))) (ped_lst (pad_cons (ped_tup (pad_cons (ped_tup (pad_cons (ped_int) (pad_cons (ped_tup (pad_cons (ped_tup (pad_cons (ped_int) (pad_nil))) (pad_nil))) (pad_cons (ped_tup (pad_cons (ped_tup (pad_cons (ped_int) (pad_nil))) (pad_nil))) (pad_nil))))) (pad_cons (ped_tup (pad_cons (ped_str) (pad_cons (ped_int) (pad_nil)))) (pad_cons (ped_tup (pad_nil)) (pad_nil))))) (pad_cons (ped_tup (pad_cons (ped_tup (pad_cons (ped_int) (pad_cons (ped_tup (pad_cons (ped_tup (pad_cons (ped_int) (pad_nil))) (pad_nil))) (pad_cons (ped_tup (pad_cons (ped_tup (pad_cons (ped_int) (pad_nil))) (pad_nil))) (pad_nil))))) (pad_cons (ped_tup (pad_cons (ped_str) (pad_cons (ped_int) (pad_nil)))) (pad_cons (ped_non) (pad_nil))))) (pad_nil)))))) (psd_cons (psd_set (i := 0) nd rfl (.inl rfl) (ped_bin opd_add (ped_var (pe_var (i := 0) rfl (.inl rfl))) (ped_lst (pad_cons (ped_tup (pad_cons (ped_tup (pad_cons (ped_int) (pad_cons (ped_tup (pad_cons (ped_tup (pad_cons (ped_int) (pad_nil))) (pad_nil))) (pad_cons (ped_tup (pad_cons (ped_tup (pad_cons (ped_int) (pad_cons (ped_int) (pad_nil)))) (pad_nil))) (pad_nil))))) (pad_cons (ped_tup (pad_cons (ped_str) (pad_cons (ped_int) (pad_nil)))) (pad_cons (ped_non) (pad_nil))))) (pad_cons (ped_tup (pad_cons (ped_tup (pad_cons (ped_int) (pad_cons (ped_tup (pad_cons (ped_tup (pad_cons (ped_int) (pad_nil))) (pad_nil))) (pad_cons (ped_tup (pad_cons (ped_tup (pad_cons (ped_int) (pad_nil))) (pad_nil))) (pad_nil))))) (pad_cons (ped_tup (pad_cons (ped_str) (pad_cons (ped_int) (pad_nil)))) (pad_cons (ped_non) (pad_nil))))) (pad_nil)))))) (psd_cons (psd_set (i := 0) nd rfl (.inl rfl) (ped_bin opd_add (ped_var (pe_var (i := 0) rfl (.inl rfl))) (ped_lst (pad_cons (ped_tup (pad_cons (ped_tup (pad_cons (ped_int) (pad_cons (ped_tup (pad_cons (ped_tup (pad_nil)) (pad_cons (ped_tup (pad_nil)) (pad_nil)))) (pad_cons (ped_tup (pad_cons (ped_tup (pad_cons (ped_neg (ped_int)) (pad_cons (ped_int) (pad_nil)))) (pad_cons (ped_tup (pad_cons (ped_int) (pad_nil))) (pad_nil)))) (pad_nil))))) (pad_cons (ped_tup (pad_cons (ped_str) (pad_cons (ped_int) (pad_nil)))) (pad_cons (ped_tup (pad_cons (ped_tup (pad_cons (ped_int) (pad_nil))) (pad_nil))) (pad_nil))))) (pad_nil))))) (psd_cons (psd_set (i := 0) nd rfl (.inl rfl) (ped_bin opd_add (ped_var (pe_var (i := 0) rfl (.inl rfl))) (ped_lst (pad_cons (ped_tup (pad_cons (ped_tup (pad_cons (ped_int) (pad_cons (ped_tup (pad_cons (ped_tup (pad_nil)) (pad_cons (ped_tup (pad_nil)) (pad_nil)))) (pad_cons (ped_tup (pad_cons (ped_tup (pad_cons (ped_neg (ped_int)) (pad_nil))) (pad_cons (ped_tup (pad_cons (ped_int) (pad_nil))) (pad_nil)))) (pad_nil))))) (pad_cons (ped_tup (pad_cons (ped_str) (pad_cons (ped_int) (pad_nil)))) (pad_cons (ped_tup (pad_cons (ped_tup (pad_nil)) (pad_nil))) (pad_nil))))) (pad_cons (ped_tup (pad_cons (ped_tup (pad_cons (ped_int) (pad_cons (ped_tup (pad_cons (ped_tup (pad_cons (ped_int) (pad_nil))) (pad_nil))) (pad_cons (ped_tup (pad_cons (ped_tup (pad_nil)) (pad_nil))) (pad_nil))))) (pad_cons (ped_tup (pad_cons (ped_str) (pad_cons (ped_int) (pad_nil)))) (pad_cons (ped_non) (pad_nil))))) (pad_nil)))))) (psd_cons (psd_set (i := 1) nd rfl (.inl rfl) (ped_tup (pad_cons (ped_tup (pad_cons (ped_int) (pad_nil))) (pad_cons (ped_tup (pad_cons (ped_int) (pad_nil))) (pad_nil))))) (psd_cons (psd_set (i := 0) nd rfl (.inl rfl) (ped_bin opd_add (ped_var (pe_var (i := 0) rfl (.inl rfl))) (ped_lst (pad_cons (ped_tup (pad_cons (ped_tup (pad_cons (ped_int) (pad_cons (ped_var (pe_var (i := 1) rfl (.inl rfl))) (pad_cons (ped_tup (pad_cons (ped_tup (pad_cons (ped_int) (pad_cons (ped_int) (pad_nil)))) (pad_nil))) (pad_nil))))) (pad_cons (ped_tup (pad_cons (ped_str) (pad_cons (ped_int) (pad_cons (ped_int) (pad_nil))))) (pad_cons (ped_tup (pad_cons (ped_tup (pad_cons (ped_int) (pad_nil))) (pad_nil))) (pad_nil))))) (pad_cons (ped_tup (pad_cons (ped_tup (pad_cons (ped_int) (pad_cons (ped_var (pe_var (i := 1) rfl (.inl rfl))) (pad_cons (ped_tup (pad_cons (ped_tup (pad_cons (ped_int) (pad_cons (ped_int) (pad_nil)))) (pad_nil))) (pad_nil))))) (pad_cons (ped_tup (pad_cons (ped_str) (pad_cons (ped_int) (pad_cons (ped_int) (pad_nil))))) (pad_cons (ped_non) (pad_nil))))) (pad_nil)))))) (psd_cons (psd_set (i := 0) nd rfl (.inl rfl) (ped_bin opd_add (ped_var (pe_var (i := 0) rfl (.inl rfl))) (ped_lst (pad_cons (ped_tup (pad_cons (ped_tup (pad_cons (ped_int) (pad_cons (ped_var (pe_var (i := 1) rfl (.inl rfl))) (pad_cons (ped_tup (pad_cons (ped_tup (pad_cons (ped_int) (pad_cons (ped_int) (pad_nil)))) (pad_nil))) (pad_nil))))) (pad_cons (ped_tup (pad_cons (ped_str) (pad_cons (ped_int) (pad_cons (ped_int) (pad_nil))))) (pad_cons (ped_non) (pad_nil))))) (pad_cons (ped_tup (pad_cons (ped_tup (pad_cons (ped_int) (pad_cons (ped_var (pe_var (i := 1) rfl (.inl rfl))) (pad_cons (ped_tup (pad_cons (ped_tup (pad_cons (ped_int) (pad_cons (ped_int) (pad_cons (ped_int) (pad_nil))))) (pad_nil))) (pad_nil))))) (pad_cons (ped_tup (pad_cons (ped_str) (pad_cons (ped_int) (pad_cons (ped_int) (pad_nil))))) (pad_cons (ped_non) (pad_nil))))) (pad_nil)))))) (psd_cons (psd_set (i := 0) nd rfl (.inl rfl) (ped_bin opd_add (ped_var (pe_var (i := 0) rfl (.inl rfl))) (ped_lst (pad_cons (ped_tup (pad_cons (ped_tup (pad_cons (ped_int) (pad_cons (ped_var (pe_var (i := 1) rfl (.inl rfl))) (pad_cons (ped_tup (pad_cons (ped_tup (pad_cons (ped_int) (pad_cons (ped_neg (ped_int)) (pad_nil)))) (pad_nil))) (pad_nil))))) (pad_cons (ped_tup (pad_cons (ped_str) (pad_cons (ped_int) (pad_cons (ped_int) (pad_nil))))) (pad_cons (ped_tup (pad_cons (ped_tup (pad_cons (ped_neg (ped_int)) (pad_nil))) (pad_nil))) (pad_nil))))) (pad_cons (ped_tup (pad_cons (ped_tup (pad_cons (ped_int) (pad_cons (ped_var (pe_var (i := 1) rfl (.inl rfl))) (pad_cons (ped_tup (pad_cons (ped_tup (pad_cons (ped_int) (pad_cons (ped_int) (pad_nil)))) (pad_cons (ped_tup (pad_cons (ped_int) (pad_nil))) (pad_nil)))) (pad_nil))))) (pad_cons (ped_tup (pad_cons (ped_str) (pad_cons (ped_int) (pad_cons (ped_int) (pad_nil))))) (pad_cons (ped_non) (pad_nil))))) (pad_nil)))))) (psd_cons (psd_set (i := 0) nd rfl (.inl rfl) (ped_bin opd_add (ped_var (pe_var (i := 0) rfl (.inl rfl))) (ped_lst (pad_cons (ped_tup (pad_cons (ped_tup (pad_cons (ped_int) (pad_cons (ped_var (pe_var (i := 1) rfl (.inl rfl))) (pad_cons (ped_tup (pad_cons (ped_tup (pad_cons (ped_int) (pad_cons (ped_int) (pad_nil)))) (pad_cons (ped_tup (pad_cons (ped_int) (pad_nil))) (pad_nil)))) (pad_nil))))) (pad_cons (ped_tup (pad_cons (ped_str) (pad_cons (ped_int) (pad_cons (ped_int) (pad_nil))))) (pad_cons (ped_tup (pad_cons (ped_tup (pad_cons (ped_int) (pad_nil))) (pad_nil))) (pad_nil))))) (pad_cons (ped_tup (pad_cons (ped_tup (pad_cons (ped_int) (pad_cons (ped_var (pe_var (i := 1) rfl (.inl rfl))) (pad_cons (ped_tup (pad_cons (ped_tup (pad_cons (ped_int) (pad_cons (ped_int) (pad_nil)))) (pad_nil))) (pad_nil))))) (pad_cons (ped_tup (pad_cons (ped_str) (pad_cons (ped_int) (pad_cons (ped_int) (pad_nil))))) (pad_cons (ped_non) (pad_nil))))) (pad_nil)))))) (psd_cons (psd_asg (ped_tup (pad_cons (ped_tup (pad_cons (ped_tup (pad_cons (ped_int) (pad_cons (ped_int) (pad_nil)))) (pad_cons (ped_tup (pad_cons (ped_int) (pad_nil))) (pad_nil)))) (pad_cons (ped_tup (pad_cons (ped_tup (pad_cons (ped_int) (pad_cons (ped_int) (pad_nil)))) (pad_cons (ped_tup (pad_cons (ped_int) (pad_cons (ped_int) (pad_nil)))) (pad_nil)))) (pad_nil)))) (pgd_tup C.calm (pgds_cons (i := 2) nd rfl (.inl rfl) (pgds_cons (i := 3) nd rfl (.inl rfl) (pgds_nil))))) (psd_cons (psd_set (i := 0) nd rfl (.inl rfl) (ped_bin opd_add (ped_var (pe_var (i := 0) rfl (.inl rfl))) (ped_lst (pad_cons (ped_tup (pad_cons (ped_tup (pad_cons (ped_int) (pad_cons (ped_var (pe_var (i := 1) rfl (.inl rfl))) (pad_cons (ped_var (pe_var (i := 2) rfl (.inl rfl))) (pad_nil))))) (pad_cons (ped_tup (pad_cons (ped_str) (pad_cons (ped_int) (pad_cons (ped_int) (pad_nil))))) (pad_cons (ped_tup (pad_cons (ped_tup (pad_cons (ped_int) (pad_nil))) (pad_nil))) (pad_nil))))) (pad_cons (ped_tup (pad_cons (ped_tup (pad_cons (ped_int) (pad_cons (ped_var (pe_var (i := 1) rfl (.inl rfl))) (pad_cons (ped_var (pe_var (i := 2) rfl (.inl rfl))) (pad_nil))))) (pad_cons (ped_tup (pad_cons (ped_str) (pad_cons (ped_int) (pad_cons (ped_int) (pad_nil))))) (pad_cons (ped_non) (pad_nil))))) (pad_nil)))))) (psd_cons (psd_set (i := 0) nd rfl (.inl rfl) (ped_bin opd_add (ped_var (pe_var (i := 0) rfl (.inl rfl))) (ped_lst (pad_cons (ped_tup (pad_cons (ped_tup (pad_cons (ped_int) (pad_cons (ped_var (pe_var (i := 1) rfl (.inl rfl))) (pad_cons (ped_tup (pad_cons (ped_tup (pad_cons (ped_neg (ped_int)) (pad_nil))) (pad_cons (ped_tup (pad_cons (ped_int) (pad_cons (ped_int) (pad_nil)))) (pad_nil)))) (pad_nil))))) (pad_cons (ped_tup (pad_cons (ped_str) (pad_cons (ped_int) (pad_cons (ped_int) (pad_nil))))) (pad_cons (ped_non) (pad_nil))))) (pad_cons (ped_tup (pad_cons (ped_tup (pad_cons (ped_int) (pad_cons (ped_var (pe_var (i := 1) rfl (.inl rfl))) (pad_cons (ped_tup (pad_cons (ped_tup (pad_nil)) (pad_cons (ped_tup (pad_cons (ped_int) (pad_cons (ped_int) (pad_nil)))) (pad_nil)))) (pad_nil))))) (pad_cons (ped_tup (pad_cons (ped_str) (pad_cons (ped_int) (pad_cons (ped_int) (pad_nil))))) (pad_cons (ped_tup (pad_cons (ped_tup (pad_nil)) (pad_nil))) (pad_nil))))) (pad_nil)))))) (psd_cons (psd_set (i := 0) nd rfl (.inl rfl) (ped_bin opd_add (ped_var (pe_var (i := 0) rfl (.inl rfl))) (ped_lst (pad_cons (ped_tup (pad_cons (ped_tup (pad_cons (ped_int) (pad_cons (ped_var (pe_var (i := 1) rfl (.inl rfl))) (pad_cons (ped_tup (pad_cons (ped_tup (pad_cons (ped_int) (pad_nil))) (pad_nil))) (pad_nil))))) (pad_cons (ped_tup (pad_cons (ped_str) (pad_cons (ped_int) (pad_cons (ped_int) (pad_nil))))) (pad_cons (ped_non) (pad_nil))))) (pad_nil))))) (psd_cons (psd_set (i := 0) nd rfl (.inl rfl) (ped_bin opd_add (ped_var (pe_var (i := 0) rfl (.inl rfl))) (ped_lst (pad_cons (ped_tup (pad_cons (ped_tup (pad_cons (ped_int) (pad_cons (ped_var (pe_var (i := 1) rfl (.inl rfl))) (pad_cons (ped_tup (pad_cons (ped_tup (pad_cons (ped_int) (pad_cons (ped_int) (pad_cons (ped_int) (pad_nil))))) (pad_cons (ped_tup (pad_cons (ped_int) (pad_cons (ped_int) (pad_nil)))) (pad_nil)))) (pad_nil))))) (pad_cons (ped_tup (pad_cons (ped_str) (pad_cons (ped_int) (pad_cons (ped_int) (pad_nil))))) (pad_cons (ped_tup (pad_cons (ped_tup (pad_cons (ped_int) (pad_cons (ped_int) (pad_nil)))) (pad_nil))) (pad_nil))))) (pad_cons (ped_tup (pad_cons (ped_tup (pad_cons (ped_int) (pad_cons (ped_var (pe_var (i := 1) rfl (.inl rfl))) (pad_cons (ped_var (pe_var (i := 2) rfl (.inl rfl))) (pad_nil))))) (pad_cons (ped_tup (pad_cons (ped_str) (pad_cons (ped_int) (pad_cons (ped_int) (pad_nil))))) (pad_cons (ped_non) (pad_nil))))) (pad_nil)))))) (psd_cons (psd_set (i := 0) nd rfl (.inl rfl) (ped_bin opd_add (ped_var (pe_var (i := 0) rfl (.inl rfl))) (ped_lst (pad_cons (ped_tup (pad_cons (ped_tup (pad_cons (ped_int) (pad_cons (ped_var (pe_var (i := 1) rfl (.inl rfl))) (pad_cons (ped_var (pe_var (i := 3) rfl (.inl rfl))) (pad_nil))))) (pad_cons (ped_tup (pad_cons (ped_str) (pad_cons (ped_int) (pad_nil)))) (pad_cons (ped_tup (pad_cons (ped_tup (pad_cons (ped_int) (pad_cons (ped_int) (pad_nil)))) (pad_nil))) (pad_nil))))) (pad_cons (ped_tup (pad_cons (ped_tup (pad_cons (ped_int) (pad_cons (ped_var (pe_var (i := 1) rfl (.inl rfl))) (pad_cons (ped_tup (pad_cons (ped_tup (pad_cons (ped_int) (pad_cons (ped_int) (pad_nil)))) (pad_cons (ped_tup (pad_cons (ped_int) (pad_cons (ped_neg (ped_int)) (pad_nil)))) (pad_nil)))) (pad_nil))))) (pad_cons (ped_tup (pad_cons (ped_str) (pad_cons (ped_int) (pad_nil)))) (pad_cons (ped_non) (pad_nil))))) (pad_nil)))))) (psd_cons (psd_set (i := 0) nd rfl (.inl rfl) (ped_bin opd_add (ped_var (pe_var (i := 0) rfl (.inl rfl))) (ped_lst (pad_cons (ped_tup (pad_cons (ped_tup (pad_cons (ped_int) (pad_cons (ped_var (pe_var (i := 1) rfl (.inl rfl))) (pad_cons (ped_var (pe_var (i := 3) rfl (.inl rfl))) (pad_nil))))) (pad_cons (ped_tup (pad_cons (ped_str) (pad_cons (ped_neg (ped_int)) (pad_nil)))) (pad_cons (ped_non) (pad_nil))))) (pad_cons (ped_tup (pad_cons (ped_tup (pad_cons (ped_int) (pad_cons (ped_var (pe_var (i := 1) rfl (.inl rfl))) (pad_cons (ped_tup (pad_cons (ped_tup (pad_cons (ped_int) (pad_cons (ped_int) (pad_nil)))) (pad_cons (ped_tup (pad_cons (ped_int) (pad_cons (ped_int) (pad_nil)))) (pad_nil)))) (pad_nil))))) (pad_cons (ped_tup (pad_cons (ped_str) (pad_cons (ped_int) (pad_nil)))) (pad_cons (ped_tup (pad_cons (ped_tup (pad_cons (ped_int) (pad_nil))) (pad_cons (ped_tup (pad_cons (ped_int) (pad_nil))) (pad_nil)))) (pad_nil))))) (pad_nil)))))) (psd_one (psd_ret (ped_bin opd_add (ped_var (pe_var (i := 0) rfl (.inl rfl))) (ped_lst (pad_cons (ped_tup (pad_cons (ped_tup (pad_cons (ped_int) (pad_cons (ped_var (pe_var (i := 1) rfl (.inl rfl))) (pad_cons (ped_tup (pad_cons (ped_tup (pad_cons (ped_int) (pad_cons (ped_int) (pad_nil)))) (pad_cons (ped_tup (pad_cons (ped_neg (ped_int)) (pad_cons (ped_int) (pad_nil)))) (pad_nil)))) (pad_nil))))) (pad_cons (ped_tup (pad_cons (ped_str) (pad_cons (ped_int) (pad_nil)))) (pad_cons (ped_non) (pad_nil))))) (pad_cons (ped_tup (pad_cons (ped_tup (pad_cons (ped_int) (pad_cons (ped_var (pe_var (i := 1) rfl (.inl rfl))) (pad_cons (ped_tup (pad_cons (ped_tup (pad_cons (ped_int) (pad_cons (ped_int) (pad_nil)))) (pad_cons (ped_tup (pad_cons (ped_int) (pad_nil))) (pad_nil)))) (pad_nil))))) (pad_cons (ped_tup (pad_cons (ped_str) (pad_cons (ped_int) (pad_nil)))) (pad_cons (ped_tup (pad_cons (ped_tup (pad_cons (ped_int) (pad_nil))) (pad_nil))) (pad_nil))))) (pad_nil)))))))))))))))))))))))
theorem cal__law_units (M : Md w K mg) : CalG P w K mg base 1 "_law_units" 0 ff__law_units := by
  obtain ⟨fd, F⟩ := M.d__law_units
  exact ⟨_, fd, [], fnD F S__law_units fun cdv A outer s H E C tk hp => b__law_units M cdv A outer s H E C tk hp, M.g__law_units, F.kp, FunD.bindsN F fun _ _ _ _ _ _ us hl => match us, hl with | [], _ => rfl⟩
/-! _law_blocks -/
def N__law_blocks : List Str := ["sees", "blind", "some", "three"]
def m__law_blocks : FSt := sSeq (sAsg (.tup [0, 1]) (eTup (aCons (eTup (aCons (eTup (aCons (eC (.int 1)) (aNil))) (aNil))) (aCons (eTup (aCons (eTup (aCons (eC (.int 2)) (aNil))) (aNil))) (aNil))))) (sSeq (sAsg (.one 2) (eLstL (aCons (eTup (aCons (eTup (aCons (eC (.int 2)) (aCons (eVar 0) (aCons (eTup (aCons (eTup (aCons (eUn gNeg (eC (.int 1))) (aCons (eUn gNeg (eC (.int 3))) (aNil)))) (aCons (eTup (aCons (eC (.int 1)) (aCons (eC (.int 3)) (aNil)))) (aNil)))) (aNil))))) (aCons (eTup (aCons (eC (.str "block")) (aCons (eC (.int 1)) (aCons (eC (.int 3)) (aNil))))) (aCons (eTup (aCons (eTup (aCons (eUn gNeg (eC (.int 1))) (aCons (eUn gNeg (eC (.int 3))) (aNil)))) (aNil))) (aNil))))) (aNil)))) (sSeq (sExpr (eMeth (eVar 2) (aCons (eTup (aCons (eTup (aCons (eC (.int 2)) (aCons (eVar 1) (aCons (eTup (aCons (eTup (aCons (eUn gNeg (eC (.int 1))) (aCons (eUn gNeg (eC (.int 3))) (aNil)))) (aCons (eTup (aCons (eC (.int 1)) (aCons (eC (.int 3)) (aNil)))) (aNil)))) (aNil))))) (aCons (eTup (aCons (eC (.str "block")) (aCons (eC (.int 1)) (aCons (eC (.int 3)) (aNil))))) (aCons (eC .none) (aNil))))) (aNil)) mApp)) (sSeq (sExpr (eMeth (eVar 2) (aCons (eTup (aCons (eTup (aCons (eC (.int 2)) (aCons (eVar 0) (aCons (eTup (aCons (eTup (aCons (eUn gNeg (eC (.int 1))) (aCons (eUn gNeg (eC (.int 3))) (aNil)))) (aCons (eTup (aCons (eC (.int 1)) (aCons (eC (.int 3)) (aNil)))) (aNil)))) (aNil))))) (aCons (eTup (aCons (eC (.str "block")) (aCons (eC (.int 1)) (aCons (eC (.int 1)) (aNil))))) (aCons (eC .none) (aNil))))) (aNil)) mApp)) (sSeq (sExpr (eMeth (eVar 2) (aCons (eTup (aCons (eTup (aCons (eC (.int 2)) (aCons (eVar 0) (aCons (eTup (aCons (eTup (aCons (eUn gNeg (eC (.int 1))) (aCons (eUn gNeg (eC (.int 3))) (aNil)))) (aCons (eTup (aCons (eC (.int 1)) (aCons (eC (.int 3)) (aNil)))) (aNil)))) (aNil))))) (aCons (eTup (aCons (eC (.str "block")) (aCons (eC (.int 1)) (aCons (eUn gNeg (eC (.int 3))) (aNil))))) (aCons (eC .none) (aNil))))) (aNil)) mApp)) (sSeq (sExpr (eMeth (eVar 2) (aCons (eTup (aCons (eTup (aCons (eC (.int 2)) (aCons (eVar 0) (aCons (eTup (aCons (eTup (aCons (eUn gNeg (eC (.int 1))) (aCons (eUn gNeg (eC (.int 3))) (aNil)))) (aCons (eTup (aCons (eC (.int 1)) (aCons (eC (.int 3)) (aNil)))) (aNil)))) (aNil))))) (aCons (eTup (aCons (eC (.str "block")) (aCons (eC (.int 2)) (aCons (eC (.int 3)) (aNil))))) (aCons (eC .none) (aNil))))) (aNil)) mApp)) (sSeq (sExpr (eMeth (eVar 2) (aCons (eTup (aCons (eTup (aCons (eC (.int 2)) (aCons (eVar 0) (aCons (eTup (aCons (eTup (aCons (eUn gNeg (eC (.int 2))) (aCons (eUn gNeg (eC (.int 3))) (aNil)))) (aCons (eTup (aCons (eC (.int 1)) (aCons (eC (.int 3)) (aNil)))) (aNil)))) (aNil))))) (aCons (eTup (aCons (eC (.str "block")) (aCons (eC (.int 1)) (aCons (eC (.int 3)) (aNil))))) (aCons (eC .none) (aNil))))) (aNil)) mApp)) (sSeq (sExpr (eMeth (eVar 2) (aCons (eTup (aCons (eTup (aCons (eC (.int 2)) (aCons (eVar 0) (aCons (eTup (aCons (eTup (aCons (eC (.int 1)) (aCons (eUn gNeg (eC (.int 3))) (aNil)))) (aCons (eTup (aCons (eC (.int 1)) (aCons (eC (.int 3)) (aNil)))) (aNil)))) (aNil))))) (aCons (eTup (aCons (eC (.str "block")) (aCons (eC (.int 1)) (aCons (eC (.int 3)) (aNil))))) (aCons (eC .none) (aNil))))) (aNil)) mApp)) (sSeq (sExpr (eMeth (eVar 2) (aCons (eTup (aCons (eTup (aCons (eC (.int 2)) (aCons (eVar 0) (aCons (eTup (aCons (eTup (aCons (eUn gNeg (eC (.int 2))) (aCons (eUn gNeg (eC (.int 3))) (aNil)))) (aCons (eTup (aCons (eC (.int 1)) (aCons (eC (.int 2)) (aCons (eC (.int 3)) (aNil))))) (aNil)))) (aNil))))) (aCons (eTup (aCons (eC (.str "block")) (aCons (eC (.int 1)) (aCons (eC (.int 3)) (aNil))))) (aCons (eC .none) (aNil))))) (aNil)) mApp)) (sSeq (sExpr (eMeth (eVar 2) (aCons (eTup (aCons (eTup (aCons (eC (.int 2)) (aCons (eVar 0) (aCons (eTup (aCons (eTup (aCons (eUn gNeg (eC (.int 1))) (aCons (eUn gNeg (eC (.int 3))) (aNil)))) (aCons (eTup (aCons (eUn gNeg (eC (.int 3))) (aNil))) (aCons (eTup (aCons (eC (.int 1)) (aCons (eC (.int 3)) (aNil)))) (aNil))))) (aNil))))) (aCons (eTup (aCons (eC (.str "block")) (aCons (eC (.int 2)) (aCons (eC (.int 3)) (aNil))))) (aCons (eC .none) (aNil))))) (aNil)) mApp)) (sSeq (sExpr (eMeth (eVar 2) (aCons (eTup (aCons (eTup (aCons (eC (.int 2)) (aCons (eVar 0) (aCons (eTup (aCons (eTup (aCons (eUn gNeg (eC (.int 2))) (aNil))) (aCons (eTup (aCons (eC (.int 1)) (aCons (eC (.int 3)) (aNil)))) (aNil)))) (aNil))))) (aCons (eTup (aCons (eC (.str "block")) (aCons (eC (.int 1)) (aCons (eC (.int 3)) (aNil))))) (aCons (eTup (aCons (eTup (aCons (eUn gNeg (eC (.int 2))) (aNil))) (aNil))) (aNil))))) (aNil)) mApp)) (sSeq (sExpr (eMeth (eVar 2) (aCons (eTup (aCons (eTup (aCons (eC (.int 2)) (aCons (eTup (aCons (eTup (aCons (eC (.int 1)) (aNil))) (aCons (eTup (aCons (eC (.int 1)) (aCons (eC (.int 2)) (aNil)))) (aNil)))) (aCons (eTup (aCons (eTup (aCons (eUn gNeg (eC (.int 3))) (aCons (eUn gNeg (eC (.int 4))) (aNil)))) (aCons (eTup (aCons (eC (.int 3)) (aCons (eC (.int 4)) (aNil)))) (aNil)))) (aNil))))) (aCons (eTup (aCons (eC (.str "block")) (aCons (eC (.int 1)) (aCons (eC (.int 4)) (aNil))))) (aCons (eTup (aCons (eTup (aCons (eUn gNeg (eC (.int 3))) (aCons (eUn gNeg (eC (.int 4))) (aNil)))) (aNil))) (aNil))))) (aNil)) mApp)) (sSeq (sExpr (eMeth (eVar 2) (aCons (eTup (aCons (eTup (aCons (eC (.int 2)) (aCons (eTup (aCons (eTup (aCons (eC (.int 1)) (aNil))) (aCons (eTup (aCons (eC (.int 1)) (aCons (eC (.int 2)) (aNil)))) (aNil)))) (aCons (eTup (aCons (eTup (aCons (eUn gNeg (eC (.int 3))) (aCons (eUn gNeg (eC (.int 4))) (aNil)))) (aCons (eTup (aCons (eC (.int 3)) (aCons (eC (.int 4)) (aNil)))) (aNil)))) (aNil))))) (aCons (eTup (aCons (eC (.str "block")) (aCons (eC (.int 1)) (aCons (eC (.int 3)) (aNil))))) (aCons (eC .none) (aNil))))) (aNil)) mApp)) (sSeq (sExpr (eMeth (eVar 2) (aCons (eTup (aCons (eTup (aCons (eC (.int 2)) (aCons (eTup (aCons (eTup (aCons (eC (.int 1)) (aNil))) (aCons (eTup (aCons (eC (.int 1)) (aNil))) (aNil)))) (aCons (eTup (aCons (eTup (aCons (eUn gNeg (eC (.int 3))) (aCons (eUn gNeg (eC (.int 4))) (aNil)))) (aCons (eTup (aCons (eC (.int 3)) (aCons (eC (.int 4)) (aNil)))) (aNil)))) (aNil))))) (aCons (eTup (aCons (eC (.str "block")) (aCons (eC (.int 1)) (aCons (eC (.int 3)) (aNil))))) (aCons (eTup (aCons (eTup (aCons (eUn gNeg (eC (.int 3))) (aCons (eUn gNeg (eC (.int 4))) (aNil)))) (aNil))) (aNil))))) (aNil)) mApp)) (sSeq (sExpr (eMeth (eVar 2) (aCons (eTup (aCons (eTup (aCons (eC (.int 2)) (aCons (eTup (aCons (eTup (aCons (eC (.int 1)) (aNil))) (aCons (eTup (aCons (eC (.int 2)) (aNil))) (aNil)))) (aCons (eTup (aCons (eTup (aCons (eUn gNeg (eC (.int 3))) (aCons (eUn gNeg (eC (.int 4))) (aNil)))) (aCons (eTup (aCons (eC (.int 3)) (aCons (eC (.int 4)) (aNil)))) (aNil)))) (aNil))))) (aCons (eTup (aCons (eC (.str "block")) (aCons (eC (.int 1)) (aCons (eC (.int 4)) (aNil))))) (aCons (eC .none) (aNil))))) (aNil)) mApp)) (sSeq (sExpr (eMeth (eVar 2) (aCons (eTup (aCons (eTup (aCons (eC (.int 2)) (aCons (eTup (aCons (eTup (aNil)) (aCons (eTup (aCons (eC (.int 2)) (aNil))) (aNil)))) (aCons (eTup (aCons (eTup (aCons (eUn gNeg (eC (.int 3))) (aCons (eUn gNeg (eC (.int 4))) (aNil)))) (aCons (eTup (aCons (eC (.int 3)) (aCons (eC (.int 4)) (aNil)))) (aNil)))) (aNil))))) (aCons (eTup (aCons (eC (.str "block")) (aCons (eC (.int 0)) (aCons (eUn gNeg (eC (.int 4))) (aNil))))) (aCons (eTup (aCons (eTup (aCons (eC (.int 3)) (aCons (eC (.int 4)) (aNil)))) (aNil))) (aNil))))) (aNil)) mApp)) (sSeq (sAsg (.one 3) (eTup (aCons (eTup (aCons (eUn gNeg (eC (.int 1))) (aCons (eUn gNeg (eC (.int 4))) (aNil)))) (aCons (eTup (aCons (eUn gNeg (eC (.int 2))) (aCons (eUn gNeg (eC (.int 4))) (aNil)))) (aCons (eTup (aCons (eC (.int 1)) (aCons (eC (.int 2)) (aCons (eC (.int 4)) (aNil))))) (aNil)))))) (sSeq (sExpr (eMeth (eVar 2) (aCons (eTup (aCons (eTup (aCons (eC (.int 3)) (aCons (eTup (aCons (eTup (aCons (eC (.int 1)) (aCons (eC (.int 2)) (aNil)))) (aNil))) (aCons (eVar 3) (aNil))))) (aCons (eTup (aCons (eC (.str "block")) (aCons (eC (.int 2)) (aCons (eC (.int 4)) (aNil))))) (aCons (eTup (aCons (eTup (aCons (eUn gNeg (eC (.int 1))) (aCons (eUn gNeg (eC (.int 4))) (aNil)))) (aCons (eTup (aCons (eUn gNeg (eC (.int 2))) (aCons (eUn gNeg (eC (.int 4))) (aNil)))) (aNil)))) (aNil))))) (aNil)) mApp)) (sSeq (sExpr (eMeth (eVar 2) (aCons (eTup (aCons (eTup (aCons (eC (.int 3)) (aCons (eTup (aCons (eTup (aCons (eC (.int 1)) (aNil))) (aNil))) (aCons (eVar 3) (aNil))))) (aCons (eTup (aCons (eC (.str "block")) (aCons (eC (.int 2)) (aCons (eC (.int 4)) (aNil))))) (aCons (eC .none) (aNil))))) (aNil)) mApp)) (sRet (eBin gAdd (eVar 2) (eLst (aCons (eTup (aCons (eTup (aCons (eC (.int 3)) (aCons (eTup (aCons (eTup (aCons (eC (.int 1)) (aCons (eC (.int 2)) (aNil)))) (aNil))) (aCons (eBin gAdd (eVar 3) (eTup (aCons (eTup (aCons (eC (.int 3)) (aCons (eUn gNeg (eC (.int 4))) (aNil)))) (aNil)))) (aNil))))) (aCons (eTup (aCons (eC (.str "block")) (aCons (eC (.int 2)) (aCons (eC (.int 4)) (aNil))))) (aCons (eC .none) (aNil))))) (aNil)))))))))))))))))))))))
def ff__law_blocks : FF := fnRun N__law_blocks.length m__law_blocks
theorem S__law_blocks : FnScope N__law_blocks [] (defScope (top 59)) := C8.fnScope_by (by decide +kernel)
theorem b__law_blocks {fa : Addr} (M : Md w K mg) (cdv : Value) (A : Around) (outer : List Env) (s : Shared) (H : Hp) (E : XK)
    (C : Ctx (cxOf (L2.CX P w) P w K mg base N__law_blocks "_law_blocks" (defScope (top 59)) fa cdv A outer s H E) 0) (tk : Takes (cxOf (L2.CX P w) P w K mg base N__law_blocks "_law_blocks" (defScope (top 59)) fa cdv A outer s H E) (fun c d _ H' => E c d H'))
    (hp : PassesOwn (model P w) (A.deeper (envOfC "_law_blocks" (defScope (top 59)) s.heap.objs.size fa cdv)) (envOfC "_law_blocks" (defScope (top 59)) s.heap.objs.size fa cdv) (cxOf (L2.CX P w) P w K mg base N__law_blocks "_law_blocks" (defScope (top 59)) fa cdv A outer s H E).xe) :
    PSsD (cxOf (L2.CX P w) P w K mg base N__law_blocks "_law_blocks" (defScope (top 59)) fa cdv A outer s H E) (fun c d _ H' => E c d H') (defBody (top 59)) m__law_blocks := by
  have nd : N__law_blocks.Nodup := S__law_blocks.nd
  exact psd_cons (psd_asg (ped_tup (pad_cons (ped_tup (pad_cons (ped_tup (pad_cons (ped_int) (pad_nil))) (pad_nil))) (pad_cons (ped_tup (pad_cons (ped_tup (pad_cons (ped_int) (pad_nil))) (pad_nil))) (pad_nil)))) (pgd_tup C.calm (pgds_cons (i := 0) nd rfl (.inl rfl) (pgds_cons (i := 1) nd rfl (.inl rfl) (pgds_nil))))) (psd_cons (psd_set (i := 2) nd rfl (.inl rfl) (ped_lstL (pad_cons (ped_tup (pad_cons (ped_tup (pad_cons (ped_int) (pad_cons (ped_var (pe_var (i := 0) rfl (.inl rfl))) (pad_cons (ped_tup (pad_cons (ped_tup (pad_cons (ped_neg (ped_int)) (pad_cons (ped_neg (ped_int)) (pad_nil)))) (pad_cons (ped_tup (pad_cons (ped_int) (pad_cons (ped_int) (pad_nil)))) (pad_nil)))) (pad_nil))))) (pad_cons (ped_tup (pad_cons (ped_str) (pad_cons (ped_int) (pad_cons (ped_int) (pad_nil))))) (pad_cons (ped_tup (pad_cons (ped_tup (pad_cons (ped_neg (ped_int)) (pad_cons (ped_neg (ped_int)) (pad_nil)))) (pad_nil))) (pad_nil))))) (pad_nil)))) (psd_cons (psd_expr (ped_append (ped_var (pe_var (i := 2) rfl (.inl rfl))) (pad_cons (ped_tup (pad_cons (ped_tup (pad_cons (ped_int) (pad_cons (ped_var (pe_var (i := 1) rfl (.inl rfl))) (pad_cons (ped_tup (pad_cons (ped_tup (pad_cons (ped_neg (ped_int)) (pad_cons (ped_neg (ped_int)) (pad_nil)))) (pad_cons (ped_tup (pad_cons (ped_int) (pad_cons (ped_int) (pad_nil)))) (pad_nil)))) (pad_nil))))) (pad_cons (ped_tup (pad_cons (ped_str) (pad_cons (ped_int) (pad_cons (ped_int) (pad_nil))))) (pad_cons (ped_non) (pad_nil))))) (pad_nil)))) (psd_cons (psd_expr (ped_append (ped_var (pe_var (i := 2) rfl (.inl rfl))) (pad_cons (ped_tup (pad_cons (ped_tup (pad_cons (ped_int) (pad_cons (ped_var (pe_var (i := 0) rfl (.inl rfl))) (pad_cons (ped_tup (pad_cons (ped_tup (pad_cons (ped_neg (ped_int)) (pad_cons (ped_neg (ped_int)) (pad_nil)))) (pad_cons (ped_tup (pad_cons (ped_int) (pad_cons (ped_int) (pad_nil)))) (pad_nil)))) (pad_nil))))) (pad_cons (ped_tup (pad_cons (ped_str) (pad_cons (ped_int) (pad_cons (ped_int) (pad_nil))))) (pad_cons (ped_non) (pad_nil))))) (pad_nil)))) (psd_cons (psd_expr (ped_append (ped_var (pe_var (i := 2) rfl (.inl rfl))) (pad_cons (ped_tup (pad_cons (ped_tup (pad_cons (ped_int) (pad_cons (ped_var (pe_var (i := 0) rfl (.inl rfl))) (pad_cons (ped_tup (pad_cons (ped_tup (pad_cons (ped_neg (ped_int)) (pad_cons (ped_neg (ped_int)) (pad_nil)))) (pad_cons (ped_tup (pad_cons (ped_int) (pad_cons (ped_int) (pad_nil)))) (pad_nil)))) (pad_nil))))) (pad_cons (ped_tup (pad_cons (ped_str) (pad_cons (ped_int) (pad_cons (ped_neg (ped_int)) (pad_nil))))) (pad_cons (ped_non) (pad_nil))))) (pad_nil)))) (psd_cons (psd_expr (ped_append (ped_var (pe_var (i := 2) rfl (.inl rfl))) (pad_cons (ped_tup (pad_cons (ped_tup (pad_cons (ped_int) (pad_cons (ped_var (pe_var (i := 0) rfl (.inl rfl))) (pad_cons (ped_tup (pad_cons (ped_tup (pad_cons (ped_neg (ped_int)) (pad_cons (ped_neg (ped_int)) (pad_nil)))) (pad_cons (ped_tup (pad_cons (ped_int) (pad_cons (ped_int) (pad_nil)))) (pad_nil)))) (pad_nil))))) (pad_cons (ped_tup (pad_cons (ped_str) (pad_cons (ped_int) (pad_cons (ped_int) (pad_nil))))) (pad_cons (ped_non) (pad_nil))))) (pad_nil)))) (psd_cons (psd_expr (ped_append (ped_var (pe_var (i := 2) rfl (.inl rfl))) (pad_cons (ped_tup (pad_cons (ped_tup (pad_cons (ped_int) (pad_cons (ped_var (pe_var (i := 0) rfl (.inl rfl))) (pad_cons (ped_tup (pad_cons (ped_tup (pad_cons (ped_neg (ped_int)) (pad_cons (ped_neg (ped_int)) (pad_nil)))) (pad_cons (ped_tup (pad_cons (ped_int) (pad_cons (ped_int) (pad_nil)))) (pad_nil)))) (pad_nil))))) (pad_cons (ped_tup (pad_cons (ped_str) (pad_cons (ped_int) (pad_cons (ped_int) (pad_nil))))) (pad_cons (ped_non) (pad_nil))))) (pad_nil)))) (psd_cons (psd_expr (ped_append (ped_var (pe_var (i := 2) rfl (.inl rfl))) (pad_cons (ped_tup (pad_cons (ped_tup (pad_cons (ped_int) (pad_cons (ped_var (pe_var (i := 0) rfl (.inl rfl))) (pad_cons (ped_tup (pad_cons (ped_tup (pad_cons (ped_int) (pad_cons (ped_neg (ped_int)) (pad_nil)))) (pad_cons (ped_tup (pad_cons (ped_int) (pad_cons (ped_int) (pad_nil)))) (pad_nil)))) (pad_nil))))) (pad_cons (ped_tup (pad_cons (ped_str) (pad_cons (ped_int) (pad_cons (ped_int) (pad_nil))))) (pad_cons (ped_non) (pad_nil))))) (pad_nil)))) (psd_cons (psd_expr (ped_append (ped_var (pe_var (i := 2) rfl (.inl rfl))) (pad_cons (ped_tup (pad_cons (ped_tup (pad_cons (ped_int) (pad_cons (ped_var (pe_var (i := 0) rfl (.inl rfl))) (pad_cons (ped_tup (pad_cons (ped_tup (pad_cons (ped_neg (ped_int)) (pad_cons (ped_neg (ped_int)) (pad_nil)))) (pad_cons (ped_tup (pad_cons (ped_int) (pad_cons (ped_int) (pad_cons (ped_int) (pad_nil))))) (pad_nil)))) (pad_nil))))) (pad_cons (ped_tup (pad_cons (ped_str) (pad_cons (ped_int) (pad_cons (ped_int) (pad_nil))))) (pad_cons (ped_non) (pad_nil))))) (pad_nil)))) (psd_cons (psd_expr (ped_append (ped_var (pe_var (i := 2) rfl (.inl rfl))) (pad_cons (ped_tup (pad_cons (ped_tup (pad_cons (ped_int) (pad_cons (ped_var (pe_var (i := 0) rfl (.inl rfl))) (pad_cons (ped_tup (pad_cons (ped_tup (pad_cons (ped_neg (ped_int)) (pad_cons (ped_neg (ped_int)) (pad_nil)))) (pad_cons (ped_tup (pad_cons (ped_neg (ped_int)) (pad_nil))) (pad_cons (ped_tup (pad_cons (ped_int) (pad_cons (ped_int) (pad_nil)))) (pad_nil))))) (pad_nil))))) (pad_cons (ped_tup (pad_cons (ped_str) (pad_cons (ped_int) (pad_cons (ped_int) (pad_nil))))) (pad_cons (ped_non) (pad_nil))))) (pad_nil)))) (psd_cons (psd_expr (ped_append (ped_var (pe_var (i := 2) rfl (.inl rfl))) (pad_cons (ped_tup (pad_cons (ped_tup (pad_cons (ped_int) (pad_cons (ped_var (pe_var (i := 0) rfl (.inl rfl))) (pad_cons (ped_tup (pad_cons (ped_tup (pad_cons (ped_neg (ped_int)) (pad_nil))) (pad_cons (ped_tup (pad_cons (ped_int) (pad_cons (ped_int) (pad_nil)))) (pad_nil)))) (pad_nil))))) (pad_cons (ped_tup (pad_cons (ped_str) (pad_cons (ped_int) (pad_cons (ped_int) (pad_nil))))) (pad_cons (ped_tup (pad_cons (ped_tup (pad_cons (ped_neg (ped_int)) (pad_nil))) (pad_nil))) (pad_nil))))) (pad_nil)))) (psd_cons (psd_expr (ped_append (ped_var (pe_var (i := 2) rfl (.inl rfl))) (pad_cons (ped_tup (pad_cons (ped_tup (pad_cons (ped_int) (pad_cons (ped_tup (pad_cons (ped_tup (pad_cons (ped_int) (pad_nil))) (pad_cons (ped_tup (pad_cons (ped_int) (pad_cons (ped_int) (pad_nil)))) (pad_nil)))) (pad_cons (ped_tup (pad_cons (ped_tup (pad_cons (ped_neg (ped_int)) (pad_cons (ped_neg (ped_int)) (pad_nil)))) (pad_cons (ped_tup (pad_cons (ped_int) (pad_cons (ped_int) (pad_nil)))) (pad_nil)))) (pad_nil))))) (pad_cons (ped_tup (pad_cons (ped_str) (pad_cons (ped_int) (pad_cons (ped_int) (pad_nil))))) (pad_cons (ped_tup (pad_cons (ped_tup (pad_cons (ped_neg (ped_int)) (pad_cons (ped_neg (ped_int)) (pad_nil)))) (pad_nil))) (pad_nil))))) (pad_nil)))) (psd_cons (psd_expr (ped_append (ped_var (pe_var (i := 2) rfl (.inl rfl))) (pad_cons (ped_tup (pad_cons (ped_tup (pad_cons (ped_int) (pad_cons (ped_tup (pad_cons (ped_tup (pad_cons (ped_int) (pad_nil))) (pad_cons (ped_tup (pad_cons (ped_int) (pad_cons (ped_int) (pad_nil)))) (pad_nil)))) (pad_cons (ped_tup (pad_cons (ped_tup (pad_cons (ped_neg (ped_int)) (pad_cons (ped_neg (ped_int)) (pad_nil)))) (pad_cons (ped_tup (pad_cons (ped_int) (pad_cons (ped_int) (pad_nil)))) (pad_nil)))) (pad_nil))))) (pad_cons (ped_tup (pad_cons (ped_str) (pad_cons (ped_int) (pad_cons (ped_int) (pad_nil))))) (pad_cons (ped_non) (pad_nil))))) (pad_nil)))) (psd_cons (psd_expr (ped_append (ped_var (pe_var (i := 2) rfl (.inl rfl))) (pad_cons (ped_tup (pad_cons (ped_tup (pad_cons (ped_int) (pad_cons (ped_tup (pad_cons (ped_tup (pad_cons (ped_int) (pad_nil))) (pad_cons (ped_tup (pad_cons (ped_int) (pad_nil))) (pad_nil)))) (pad_cons (ped_tup (pad_cons (ped_tup (pad_cons (ped_neg (ped_int)) (pad_cons (ped_neg (ped_int)) (pad_nil)))) (pad_cons (ped_tup (pad_cons (ped_int) (pad_cons (ped_int) (pad_nil)))) (pad_nil)))) (pad_nil))))) (pad_cons (ped_tup (pad_cons (ped_str) (pad_cons (ped_int) (pad_cons (ped_int) (pad_nil))))) (pad_cons (ped_tup (pad_cons (ped_tup (pad_cons (ped_neg (ped_int)) (pad_cons (ped_neg (ped_int)) (pad_nil)))) (pad_nil))) (pad_nil))))) (pad_nil)))) (psd_cons (psd_expr (ped_append (ped_var (pe_var (i := 2) rfl (.inl rfl))) (pad_cons (ped_tup (pad_cons (ped_tup (pad_cons (ped_int) (pad_cons (ped_tup (pad_cons (ped_tup (pad_cons (ped_int) (pad_nil))) (pad_cons (ped_tup (pad_cons (ped_int) (pad_nil))) (pad_nil)))) (pad_cons (ped_tup (pad_cons (ped_tup (pad_cons (ped_neg (ped_int)) (pad_cons (ped_neg (ped_int)) (pad_nil)))) (pad_cons (ped_tup (pad_cons (ped_int) (pad_cons (ped_int) (pad_nil)))) (pad_nil)))) (pad_nil))))) (pad_cons (ped_tup (pad_cons (ped_str) (pad_cons (ped_int) (pad_cons (ped_int) (pad_nil))))) (pad_cons (ped_non) (pad_nil))))) (pad_nil)))) (psd_cons (psd_expr (ped_append (ped_var (pe_var (i := 2) rfl (.inl rfl))) (pad_cons (ped_tup (pad_cons (ped_tup (pad_cons (ped_int) (pad_cons (ped_tup (pad_cons (ped_tup (pad_nil)) (pad_cons (ped_tup (pad_cons (ped_int) (pad_nil))) (pad_nil)))) (pad_cons (ped_tup (pad_cons (ped_tup (pad_cons (ped_neg (ped_int)) (pad_cons (ped_neg (ped_int)) (pad_nil)))) (pad_cons (ped_tup (pad_cons (ped_int) (pad_cons (ped_int) (pad_nil)))) (pad_nil)))) (pad_nil))))) (pad_cons (ped_tup (pad_cons (ped_str) (pad_cons (ped_int) (pad_cons (ped_neg (ped_int)) (pad_nil))))) (pad_cons (ped_tup (pad_cons (ped_tup (pad_cons (ped_int) (pad_cons (ped_int) (pad_nil)))) (pad_nil))) (pad_nil))))) (pad_nil)))) (psd_cons (psd_set (i := 3) nd rfl (.inl rfl) (ped_tup (pad_cons (ped_tup (pad_cons (ped_neg (ped_int)) (pad_cons (ped_neg (ped_int)) (pad_nil)))) (pad_cons (ped_tup (pad_cons (ped_neg (ped_int)) (pad_cons (ped_neg (ped_int)) (pad_nil)))) (pad_cons (ped_tup (pad_cons (ped_int) (pad_cons (ped_int) (pad_cons (ped_int) (pad_nil))))) (pad_nil)))))) (psd_cons (psd_expr (ped_append (ped_var (pe_var (i := 2) rfl (.inl rfl))) (pad_cons (ped_tup (pad_cons (ped_tup (pad_cons (ped_int) (pad_cons (ped_tup (pad_cons (ped_tup (pad_cons (ped_int) (pad_cons (ped_int) (pad_nil)))) (pad_nil))) (pad_cons (ped_var (pe_var (i := 3) rfl (.inl rfl))) (pad_nil))))) (pad_cons (ped_tup (pad_cons (ped_str) (pad_cons (ped_int) (pad_cons (ped_int) (pad_nil))))) (pad_cons (ped_tup (pad_cons (ped_tup (pad_cons (ped_neg (ped_int)) (pad_cons (ped_neg (ped_int)) (pad_nil)))) (pad_cons (ped_tup (pad_cons (ped_neg (ped_int)) (pad_cons (ped_neg (ped_int)) (pad_nil)))) (pad_nil)))) (pad_nil))))) (pad_nil)))) (psd_cons (psd_expr (ped_append (ped_var (pe_var (i := 2) rfl (.inl rfl))) (pad_cons (ped_tup (pad_cons (ped_tup (pad_cons (ped_int) (pad_cons (ped_tup (pad_cons (ped_tup (pad_cons (ped_int) (pad_nil))) (pad_nil))) (pad_cons (ped_var (pe_var (i := 3) rfl (.inl rfl))) (pad_nil))))) (pad_cons (ped_tup (pad_cons (ped_str) (pad_cons (ped_int) (pad_cons (ped_int) (pad_nil))))) (pad_cons (ped_non) (pad_nil))))) (pad_nil)))) (psd_one (psd_ret (ped_bin opd_add (ped_var (pe_var (i := 2) rfl (.inl rfl))) (ped_lst (pad_cons (ped_tup (pad_cons (ped_tup (pad_cons (ped_int) (pad_cons (ped_tup (pad_cons (ped_tup (pad_cons (ped_int) (pad_cons (ped_int) (pad_nil)))) (pad_nil))) (pad_cons (ped_bin opd_add (ped_var (pe_var (i := 3) rfl (.inl rfl))) (ped_tup (pad_cons (ped_tup (pad_cons (ped_int) (pad_cons (ped_neg (ped_int)) (pad_nil)))) (pad_nil)))) (pad_nil))))) (pad_cons (ped_tup (pad_cons (ped_str) (pad_cons (ped_int) (pad_cons (ped_int) (pad_nil))))) (pad_cons (ped_non) (pad_nil))))) (pad_nil))))))))))))))))))))))))
theorem cal__law_blocks (M : Md w K mg) : CalG P w K mg base 1 "_law_blocks" 0 ff__law_blocks := by
  obtain ⟨fd, F⟩ := M.d__law_blocks
  exact ⟨_, fd, [], fnD F S__law_blocks fun cdv A outer s H E C tk hp => b__law_blocks M cdv A outer s H E C tk hp, M.g__law_blocks, F.kp, FunD.bindsN F fun _ _ _ _ _ _ us hl => match us, hl with | [], _ => rfl⟩
/-! _law_flipped -/
def N__law_flipped : List Str := ["signs", "clause", "item"]
def m__law_flipped : FSt := sRet (eB1 gTuple (aCons (eLc (iSeq (eVar 1)) (.one 2) [2] (fYes) (eBin gMul (eVar 2) (e2 ixD (eVar 0) (eB1 gAbs (aCons (eVar 2) (aNil)))))) (aNil)))
def ff__law_flipped : FF := fnRun N__law_flipped.length m__law_flipped
theorem S__law_flipped : FnScope N__law_flipped ["signs", "clause"] (defScope (top 57)) := C8.fnScope_by (by decide +kernel)
theorem b__law_flipped {fa : Addr} (M : Md w K mg) (cdv : Value) (A : Around) (outer : List Env) (s : Shared) (H : Hp) (E : XK)
    (C : Ctx (cxOf (L2.CX P w) P w K mg base N__law_flipped "_law_flipped" (defScope (top 57)) fa cdv A outer s H E) 0) (tk : Takes (cxOf (L2.CX P w) P w K mg base N__law_flipped "_law_flipped" (defScope (top 57)) fa cdv A outer s H E) (fun c d _ H' => E c d H'))
    (hp : PassesOwn (model P w) (A.deeper (envOfC "_law_flipped" (defScope (top 57)) s.heap.objs.size fa cdv)) (envOfC "_law_flipped" (defScope (top 57)) s.heap.objs.size fa cdv) (cxOf (L2.CX P w) P w K mg base N__law_flipped "_law_flipped" (defScope (top 57)) fa cdv A outer s H E).xe) :
    PSsD (cxOf (L2.CX P w) P w K mg base N__law_flipped "_law_flipped" (defScope (top 57)) fa cdv A outer s H E) (fun c d _ H' => E c d H') (defBody (top 57)) m__law_flipped := by
  have nd : N__law_flipped.Nodup := S__law_flipped.nd
  exact psd_one (psd_ret (ped_t1 cald_tuple rfl M.b_tuple boot_tuple (pad_cons (ped_lc (own := [("item", 2)]) C.calm nd (pid_seq (ped_var (pe_var (i := 1) rfl (.inl rfl)))) (blkOk_by (by kernel_rfl)) (fun _ _ _ _ _ => pgd_one nd rfl (.inl rfl)) (fun _ _ _ _ _ => ptsd_nil) (fun _ _ _ _ _ => ped_bin opd_mul (ped_var (pe_var (i := 2) rfl (.inl rfl))) (ped_get C.blk.hu (ped_var (pe_var (i := 0) rfl (.inr (.inl rfl)))) (ped_b1 cald_abs rfl M.b_abs boot_abs (pad_cons (ped_var (pe_var (i := 2) rfl (.inl rfl))) (pad_nil))))) (by decide)) (pad_nil))))
theorem cal__law_flipped (M : Md w K mg) : CalG P w K mg base 1 "_law_flipped" 2 ff__law_flipped := by
  obtain ⟨fd, F⟩ := M.d__law_flipped
  exact ⟨_, fd, ["signs", "clause"], fnD F S__law_flipped fun cdv A outer s H E C tk hp => b__law_flipped M cdv A outer s H E C tk hp, M.g__law_flipped, F.kp, FunD.bindsN F fun _ _ _ _ _ _ us hl => match us, hl with | [_, _], _ => rfl⟩
/-! _law_draw -/
def N__law_draw : List Str := ["pen", "many", "cell", "digit"]
def m__law_draw : FSt := sSeq (sDSet (eVar 0) (eC (.str "count")) (eBin gAdd (e2 ixD (eVar 0) (eC (.str "count"))) (eC (.int 1)))) (sSeq (sIf (tAndD (toB (eBin gEq (e2 ixD (eVar 0) (eC (.str "digits"))) (eC (.int 0)))) (toB (eBin gLt (e2 ixD (eVar 0) (eC (.str "at"))) (eB1 gLen (aCons (e2 ixD (eVar 0) (eC (.str "cells"))) (aNil)))))) (sSeq (sAsg (.one 2) (e2 ixD (e2 ixD (eVar 0) (eC (.str "cells"))) (e2 ixD (eVar 0) (eC (.str "at"))))) (sSeq (sDSet (eVar 0) (eC (.str "at")) (eBin gAdd (e2 ixD (eVar 0) (eC (.str "at"))) (eC (.int 1)))) (sIf (toB (eBin gGe (eVar 2) (eBin gPow (eC (.int 10)) (eC (.int 18))))) (sDSet (eVar 0) (eC (.str "digits")) (eBin gSub (eVar 2) (eBin gPow (eC (.int 10)) (eC (.int 18))))) (sDSet (eVar 0) (eC (.str "fold")) (eBin gMod (eB1 gInt (aCons (eBin gAdd (eBin gMul (e2 ixD (eVar 0) (eC (.str "fold"))) (eC (.int 60091))) (eVar 2)) (aNil))) (eC (.int 2147483477))))))) (sNx)) (sSeq (sIf (toB (eBin gGt (e2 ixD (eVar 0) (eC (.str "digits"))) (eC (.int 0)))) (sSeq (sAsg (.one 3) (eBin gMod (eB1 gInt (aCons (e2 ixD (eVar 0) (eC (.str "digits"))) (aNil))) (eVar 1))) (sSeq (sDSet (eVar 0) (eC (.str "digits")) (eBin gFdiv (e2 ixD (eVar 0) (eC (.str "digits"))) (eVar 1))) (sRet (eVar 3)))) (sNx)) (sSeq (sDSet (eVar 0) (eC (.str "fold")) (eBin gMod (eB1 gInt (aCons (eBin gAdd (eBin gAdd (eBin gMul (e2 ixD (eVar 0) (eC (.str "fold"))) (eC (.int 48271))) (e2 ixD (eVar 0) (eC (.str "count")))) (eC (.int 37))) (aNil))) (eC (.int 2147483477)))) (sRet (eBin gMod (eB1 gInt (aCons (eBin gFdiv (e2 ixD (eVar 0) (eC (.str "fold"))) (eC (.int 107))) (aNil))) (eVar 1))))))
def ff__law_draw : FF := ffDraw
theorem S__law_draw : FnScope N__law_draw ["pen", "many"] (defScope (top 55)) := C8.fnScope_by (by decide +kernel)
theorem b__law_draw {fa : Addr} (M : Md w K mg) (cdv : Value) (A : Around) (outer : List Env) (s : Shared) (H : Hp) (E : XK)
    (C : Ctx (cxOf (L2.CX P w) P w K mg base N__law_draw "_law_draw" (defScope (top 55)) fa cdv A outer s H E) 0) (tk : Takes (cxOf (L2.CX P w) P w K mg base N__law_draw "_law_draw" (defScope (top 55)) fa cdv A outer s H E) (fun c d _ H' => E c d H'))
    (hp : PassesOwn (model P w) (A.deeper (envOfC "_law_draw" (defScope (top 55)) s.heap.objs.size fa cdv)) (envOfC "_law_draw" (defScope (top 55)) s.heap.objs.size fa cdv) (cxOf (L2.CX P w) P w K mg base N__law_draw "_law_draw" (defScope (top 55)) fa cdv A outer s H E).xe) :
    PSsD (cxOf (L2.CX P w) P w K mg base N__law_draw "_law_draw" (defScope (top 55)) fa cdv A outer s H E) (fun c d _ H' => E c d H') (defBody (top 55)) m__law_draw := by
  have nd : N__law_draw.Nodup := S__law_draw.nd
  exact psd_cons (psd_dset C.hu (ped_var (pe_var (i := 0) rfl (.inl rfl))) (ped_str) (ped_bin opd_add (ped_get C.hu (ped_var (pe_var (i := 0) rfl (.inl rfl))) (ped_str)) (ped_int))) (psd_cons (psd_if (ptd_w (pwd_and (ptd_cmp (opd_eq C.hu) (ped_get C.hu (ped_var (pe_var (i := 0) rfl (.inl rfl))) (ped_str)) (ped_int)) (pwd_one_and (ptd_cmp (opd_lt C.hu) (ped_get C.hu (ped_var (pe_var (i := 0) rfl (.inl rfl))) (ped_str)) (ped_b1 cald_len rfl M.b_len boot_len (pad_cons (ped_get C.hu (ped_var (pe_var (i := 0) rfl (.inl rfl))) (ped_str)) (pad_nil))))))) (psd_cons (psd_set (i := 2) nd rfl (.inl rfl) (ped_get C.hu (ped_get C.hu (ped_var (pe_var (i := 0) rfl (.inl rfl))) (ped_str)) (ped_get C.hu (ped_var (pe_var (i := 0) rfl (.inl rfl))) (ped_str)))) (psd_cons (psd_dset C.hu (ped_var (pe_var (i := 0) rfl (.inl rfl))) (ped_str) (ped_bin opd_add (ped_get C.hu (ped_var (pe_var (i := 0) rfl (.inl rfl))) (ped_str)) (ped_int))) (psd_one (psd_if (ptd_cmp (opd_ge C.hu) (ped_var (pe_var (i := 2) rfl (.inl rfl))) (ped_bin opd_pow (ped_int) (ped_int))) (psd_one (psd_dset C.hu (ped_var (pe_var (i := 0) rfl (.inl rfl))) (ped_str) (ped_bin opd_sub (ped_var (pe_var (i := 2) rfl (.inl rfl))) (ped_bin opd_pow (ped_int) (ped_int))))) (psd_one (psd_dset C.hu (ped_var (pe_var (i := 0) rfl (.inl rfl))) (ped_str) (ped_bin opd_mod (ped_t1 cald_int rfl M.b_int boot_int (pad_cons (ped_bin opd_add (ped_bin opd_mul (ped_get C.hu (ped_var (pe_var (i := 0) rfl (.inl rfl))) (ped_str)) (ped_int)) (ped_var (pe_var (i := 2) rfl (.inl rfl)))) (pad_nil))) (ped_int)))))))) (psd_nil)) (psd_cons (psd_if (ptd_cmp (opd_gt C.hu) (ped_get C.hu (ped_var (pe_var (i := 0) rfl (.inl rfl))) (ped_str)) (ped_int)) (psd_cons (psd_set (i := 3) nd rfl (.inl rfl) (ped_bin opd_mod (ped_t1 cald_int rfl M.b_int boot_int (pad_cons (ped_get C.hu (ped_var (pe_var (i := 0) rfl (.inl rfl))) (ped_str)) (pad_nil))) (ped_var (pe_var (i := 1) rfl (.inl rfl))))) (psd_cons (psd_dset C.hu (ped_var (pe_var (i := 0) rfl (.inl rfl))) (ped_str) (ped_bin opd_fdiv (ped_get C.hu (ped_var (pe_var (i := 0) rfl (.inl rfl))) (ped_str)) (ped_var (pe_var (i := 1) rfl (.inl rfl))))) (psd_one (psd_ret (ped_var (pe_var (i := 3) rfl (.inl rfl))))))) (psd_nil)) (psd_cons (psd_dset C.hu (ped_var (pe_var (i := 0) rfl (.inl rfl))) (ped_str) (ped_bin opd_mod (ped_t1 cald_int rfl M.b_int boot_int (pad_cons (ped_bin opd_add (ped_bin opd_add (ped_bin opd_mul (ped_get C.hu (ped_var (pe_var (i := 0) rfl (.inl rfl))) (ped_str)) (ped_int)) (ped_get C.hu (ped_var (pe_var (i := 0) rfl (.inl rfl))) (ped_str))) (ped_int)) (pad_nil))) (ped_int))) (psd_one (psd_ret (ped_bin opd_mod (ped_t1 cald_int rfl M.b_int boot_int (pad_cons (ped_bin opd_fdiv (ped_get C.hu (ped_var (pe_var (i := 0) rfl (.inl rfl))) (ped_str)) (ped_int)) (pad_nil))) (ped_var (pe_var (i := 1) rfl (.inl rfl)))))))))
theorem cal0__law_draw (M : Md w K mg) : CalG P w K mg base 1 "_law_draw" 2 (fnRun N__law_draw.length m__law_draw) := by
  obtain ⟨fd, F⟩ := M.d__law_draw
  exact ⟨_, fd, ["pen", "many"], fnD F S__law_draw fun cdv A outer s H E C tk hp => b__law_draw M cdv A outer s H E C tk hp, M.g__law_draw, F.kp, FunD.bindsN F fun _ _ _ _ _ _ us hl => match us, hl with | [_, _], _ => rfl⟩
theorem cal__law_draw (M : Md w K mg) : CalG P w K mg base 1 "_law_draw" 2 ff__law_draw := cal_draw (cal0__law_draw M)
/-! _law_pick -/
def N__law_pick : List Str := ["pen", "some"]
def m__law_pick : FSt := sRet (e2 ixD (eVar 1) (eCall 2 ff__law_draw (aCons (eVar 0) (aCons (eB1 gLen (aCons (eVar 1) (aNil))) (aNil)))))
def ff__law_pick : FF := fnRun N__law_pick.length m__law_pick
theorem S__law_pick : FnScope N__law_pick ["pen", "some"] (defScope (top 56)) := C8.fnScope_by (by decide +kernel)
theorem b__law_pick {fa : Addr} (M : Md w K mg) (cdv : Value) (A : Around) (outer : List Env) (s : Shared) (H : Hp) (E : XK)
    (C : Ctx (cxOf (L2.CX P w) P w K mg base N__law_pick "_law_pick" (defScope (top 56)) fa cdv A outer s H E) 1) (tk : Takes (cxOf (L2.CX P w) P w K mg base N__law_pick "_law_pick" (defScope (top 56)) fa cdv A outer s H E) (fun c d _ H' => E c d H'))
    (hp : PassesOwn (model P w) (A.deeper (envOfC "_law_pick" (defScope (top 56)) s.heap.objs.size fa cdv)) (envOfC "_law_pick" (defScope (top 56)) s.heap.objs.size fa cdv) (cxOf (L2.CX P w) P w K mg base N__law_pick "_law_pick" (defScope (top 56)) fa cdv A outer s H E).xe) :
    PSsD (cxOf (L2.CX P w) P w K mg base N__law_pick "_law_pick" (defScope (top 56)) fa cdv A outer s H E) (fun c d _ H' => E c d H') (defBody (top 56)) m__law_pick := by
  have nd : N__law_pick.Nodup := S__law_pick.nd
  exact psd_one (psd_ret (ped_get C.hu (ped_var (pe_var (i := 1) rfl (.inl rfl))) (ped_call (cal__law_draw M) C (by decide) tk rfl (pad_cons (ped_var (pe_var (i := 0) rfl (.inl rfl))) (pad_cons (ped_b1 cald_len rfl M.b_len boot_len (pad_cons (ped_var (pe_var (i := 1) rfl (.inl rfl))) (pad_nil))) (pad_nil))))))
theorem cal__law_pick (M : Md w K mg) : CalG P w K mg base 2 "_law_pick" 2 ff__law_pick := by
  obtain ⟨fd, F⟩ := M.d__law_pick
  exact ⟨_, fd, ["pen", "some"], fnD F S__law_pick fun cdv A outer s H E C tk hp => b__law_pick M cdv A outer s H E C tk hp, M.g__law_pick, F.kp, FunD.bindsN F fun _ _ _ _ _ _ us hl => match us, hl with | [_, _], _ => rfl⟩
/-! _law_turned -/
def N__law_turned : List Str := ["pen", "formula", "step", "made", "signs", "led", "clauses", "numbers", "told", "clause", "bit"]
def m__law_turned : FSt := sSeq (sAsg (.one 4) (eBin gAdd (eLst (aCons (eC (.int 1)) (aNil))) (eLc (iRng1 (aCons (eBin gAdd (e2 ixD (eVar 1) (eC (.int 0))) (eB1 gLen (aCons (e2 ixD (eVar 1) (eC (.int 1))) (aNil)))) (aNil))) (.one 10) [10] (fYes) (eCall 2 ff__law_pick (aCons (eVar 0) (aCons (eLst (aCons (eC (.int 1)) (aCons (eUn gNeg (eC (.int 1))) (aNil)))) (aNil))))))) (sSeq (sAsg (.one 5) (eLc (iSeq (e2 ixD (eVar 1) (eC (.int 2)))) (.one 9) [9] (fYes) (eCall 2 ff__law_flipped (aCons (eVar 4) (aCons (eVar 9) (aNil)))))) (sSeq (sAsg (.one 6) (eTupK (aCons (eSort (aCons (eVar 5) (aNil))) (aNil)))) (sSeq (sAsg (.one 7) (eBin gAdd (eLc (iSeq (eVar 5)) (.one 9) [9] (fYes) (eIf (toB (e2 (inD gIn false) (eVar 9) (eVar 6))) (eIdx (eVar 6) (aCons (eVar 9) (aNil))) (eC (.int 0)))) (eLst (aCons (eB1 gLen (aCons (eVar 5) (aNil))) (aNil))))) (sSeq (sIf (toB (e2 (inD gIn false) (e2 ixD (eVar 2) (eC (.int 0))) (eLst (aCons (eC (.str "unit")) (aCons (eC (.str "drop")) (aNil)))))) (sAsg (.one 2) (eBin gAdd (eTup (aCons (e2 ixD (eVar 2) (eC (.int 0))) (aCons (e2 ixD (eVar 7) (e2 ixD (eVar 2) (eC (.int 1)))) (aNil)))) (eSl (eVar 2) (oSome (eC (.int 2))) (oNo)))) (sIf (toB (eBin gEq (e2 ixD (eVar 2) (eC (.int 0))) (eC (.str "cover")))) (sAsg (.one 2) (eTup (aCons (e2 ixD (eVar 2) (eC (.int 0))) (aCons (e2 ixD (eVar 7) (e2 ixD (eVar 2) (eC (.int 1)))) (aCons (e2 ixD (eVar 7) (e2 ixD (eVar 2) (eC (.int 2)))) (aNil)))))) (sIf (toB (eBin gEq (e2 ixD (eVar 2) (eC (.int 0))) (eC (.str "block")))) (sAsg (.one 2) (eTup (aCons (e2 ixD (eVar 2) (eC (.int 0))) (aCons (e2 ixD (eVar 7) (e2 ixD (eVar 2) (eC (.int 1)))) (aCons (eBin gMul (e2 ixD (eVar 2) (eC (.int 2))) (e2 ixD (eVar 4) (eB1 gAbs (aCons (e2 ixD (eVar 2) (eC (.int 2))) (aNil))))) (aNil)))))) (sIf (toB (eBin gEq (e2 ixD (eVar 2) (eC (.int 0))) (eC (.str "pure")))) (sAsg (.one 2) (eTup (aCons (e2 ixD (eVar 2) (eC (.int 0))) (aCons (eBin gMul (e2 ixD (eVar 2) (eC (.int 1))) (e2 ixD (eVar 4) (eB1 gAbs (aCons (e2 ixD (eVar 2) (eC (.int 1))) (aNil))))) (aNil))))) (sNx))))) (sSeq (sAsg (.one 8) (eIf (toB (eBin gIs (eVar 3) (eC .none))) (eC .none) (eB1 gTuple (aCons (eSort (aCons (eLc (iSeq (eVar 3)) (.one 9) [9] (fYes) (eCall 2 ff__law_flipped (aCons (eVar 4) (aCons (eVar 9) (aNil))))) (aNil))) (aNil))))) (sRet (eTup (aCons (eBin gAdd (eSl (eVar 1) (oNo) (oSome (eC (.int 2)))) (eTup (aCons (eFrz (eVar 6)) (aNil)))) (aCons (eVar 2) (aCons (eVar 8) (aNil)))))))))))
def ff__law_turned : FF := fnRun N__law_turned.length m__law_turned
theorem S__law_turned : FnScope N__law_turned ["pen", "formula", "step", "made"] (defScope (top 62)) := C8.fnScope_by (by decide +kernel)
theorem b__law_turned {fa : Addr} (M : Md w K mg) (cdv : Value) (A : Around) (outer : List Env) (s : Shared) (H : Hp) (E : XK)
    (C : Ctx (cxOf (L2.CX P w) P w K mg base N__law_turned "_law_turned" (defScope (top 62)) fa cdv A outer s H E) 2) (tk : Takes (cxOf (L2.CX P w) P w K mg base N__law_turned "_law_turned" (defScope (top 62)) fa cdv A outer s H E) (fun c d _ H' => E c d H'))
    (hp : PassesOwn (model P w) (A.deeper (envOfC "_law_turned" (defScope (top 62)) s.heap.objs.size fa cdv)) (envOfC "_law_turned" (defScope (top 62)) s.heap.objs.size fa cdv) (cxOf (L2.CX P w) P w K mg base N__law_turned "_law_turned" (defScope (top 62)) fa cdv A outer s H E).xe) :
    PSsD (cxOf (L2.CX P w) P w K mg base N__law_turned "_law_turned" (defScope (top 62)) fa cdv A outer s H E) (fun c d _ H' => E c d H') (defBody (top 62)) m__law_turned := by
  have nd : N__law_turned.Nodup := S__law_turned.nd
  exact psd_cons (psd_set (i := 4) nd rfl (.inr rfl) (ped_bin opd_add (ped_lst (pad_cons (ped_int) (pad_nil))) (ped_lc (own := [("bit", 10)]) C.calm nd (pid_rng1 rfl M.b_range (pad_cons (ped_bin opd_add (ped_get C.hu (ped_var (pe_var (i := 1) rfl (.inl rfl))) (ped_int)) (ped_b1 cald_len rfl M.b_len boot_len (pad_cons (ped_get C.hu (ped_var (pe_var (i := 1) rfl (.inl rfl))) (ped_int)) (pad_nil)))) (pad_nil))) (blkOk_by (by kernel_rfl)) (fun _ _ _ _ _ => pgd_one nd rfl (.inl rfl)) (fun _ _ _ _ _ => ptsd_nil) (fun _ _ _ _ _ => ped_call (cal__law_pick M) C.blk (by decide) takesF rfl (pad_cons (ped_var (pe_var (i := 0) rfl (.inr (.inl rfl)))) (pad_cons (ped_lst (pad_cons (ped_int) (pad_cons (ped_neg (ped_int)) (pad_nil)))) (pad_nil)))) (by decide)))) (psd_cons (psd_setLc (own := [("clause", 9)]) C.calm nd rfl rfl (sw_true rfl rfl rfl (by decide +kernel)) (pid_seq (ped_get C.hu (ped_var (pe_var (i := 1) rfl (.inl rfl))) (ped_int))) (blkOk_by (by kernel_rfl)) (fun _ _ _ _ _ => pgd_one nd rfl (.inl rfl)) (fun _ _ _ _ _ => ptsd_nil) (fun _ _ _ _ _ => ped_call (cal__law_flipped M) C.blk (by decide) takesF rfl (pad_cons (ped_var (pe_var (i := 4) rfl (.inr (.inl rfl)))) (pad_cons (ped_var (pe_var (i := 9) rfl (.inl rfl))) (pad_nil)))) (by decide)) (psd_cons (psd_set (i := 6) nd rfl (.inr rfl) (ped_tupK rfl M.b_tuple (pad_cons (ped_sort C.hu C.calm rfl M.b_sorted (pad_cons (ped_var (pe_var (i := 5) rfl (.inl rfl))) (pad_nil))) (pad_nil)))) (psd_cons (psd_set (i := 7) nd rfl (.inl rfl) (ped_bin opd_add (ped_lc (own := [("clause", 9)]) C.calm nd (pid_seq (ped_var (pe_var (i := 5) rfl (.inl rfl)))) (blkOk_by (by kernel_rfl)) (fun _ _ _ _ _ => pgd_one nd rfl (.inl rfl)) (fun _ _ _ _ _ => ptsd_nil) (fun _ _ _ _ _ => ped_if (ptd_in C.blk.hu (ped_var (pe_var (i := 9) rfl (.inl rfl))) (ped_var (pe_var (i := 6) rfl (.inr (.inl rfl))))) (ped_idx C.blk.hu70 (ped_var (pe_var (i := 6) rfl (.inr (.inl rfl)))) (pad_cons (ped_var (pe_var (i := 9) rfl (.inl rfl))) (pad_nil))) (ped_int)) (by decide)) (ped_lst (pad_cons (ped_b1 cald_len rfl M.b_len boot_len (pad_cons (ped_var (pe_var (i := 5) rfl (.inl rfl))) (pad_nil))) (pad_nil))))) (psd_cons (psd_if (ptd_in C.hu (ped_get C.hu (ped_var (pe_var (i := 2) rfl (.inl rfl))) (ped_int)) (ped_lst (pad_cons (ped_str) (pad_cons (ped_str) (pad_nil))))) (psd_one (psd_set (i := 2) nd rfl (.inl rfl) (ped_bin opd_add (ped_tup (pad_cons (ped_get C.hu (ped_var (pe_var (i := 2) rfl (.inl rfl))) (ped_int)) (pad_cons (ped_get C.hu (ped_var (pe_var (i := 7) rfl (.inl rfl))) (ped_get C.hu (ped_var (pe_var (i := 2) rfl (.inl rfl))) (ped_int))) (pad_nil)))) (ped_sl (ped_var (pe_var (i := 2) rfl (.inl rfl))) (pod_some (ped_int)) (pod_no))))) (psd_one (psd_if (ptd_cmp (opd_eq C.hu) (ped_get C.hu (ped_var (pe_var (i := 2) rfl (.inl rfl))) (ped_int)) (ped_str)) (psd_one (psd_set (i := 2) nd rfl (.inl rfl) (ped_tup (pad_cons (ped_get C.hu (ped_var (pe_var (i := 2) rfl (.inl rfl))) (ped_int)) (pad_cons (ped_get C.hu (ped_var (pe_var (i := 7) rfl (.inl rfl))) (ped_get C.hu (ped_var (pe_var (i := 2) rfl (.inl rfl))) (ped_int))) (pad_cons (ped_get C.hu (ped_var (pe_var (i := 7) rfl (.inl rfl))) (ped_get C.hu (ped_var (pe_var (i := 2) rfl (.inl rfl))) (ped_int))) (pad_nil))))))) (psd_one (psd_if (ptd_cmp (opd_eq C.hu) (ped_get C.hu (ped_var (pe_var (i := 2) rfl (.inl rfl))) (ped_int)) (ped_str)) (psd_one (psd_set (i := 2) nd rfl (.inl rfl) (ped_tup (pad_cons (ped_get C.hu (ped_var (pe_var (i := 2) rfl (.inl rfl))) (ped_int)) (pad_cons (ped_get C.hu (ped_var (pe_var (i := 7) rfl (.inl rfl))) (ped_get C.hu (ped_var (pe_var (i := 2) rfl (.inl rfl))) (ped_int))) (pad_cons (ped_bin opd_mul (ped_get C.hu (ped_var (pe_var (i := 2) rfl (.inl rfl))) (ped_int)) (ped_get C.hu (ped_var (pe_var (i := 4) rfl (.inr (.inl rfl)))) (ped_b1 cald_abs rfl M.b_abs boot_abs (pad_cons (ped_get C.hu (ped_var (pe_var (i := 2) rfl (.inl rfl))) (ped_int)) (pad_nil))))) (pad_nil))))))) (psd_one (psd_if (ptd_cmp (opd_eq C.hu) (ped_get C.hu (ped_var (pe_var (i := 2) rfl (.inl rfl))) (ped_int)) (ped_str)) (psd_one (psd_set (i := 2) nd rfl (.inl rfl) (ped_tup (pad_cons (ped_get C.hu (ped_var (pe_var (i := 2) rfl (.inl rfl))) (ped_int)) (pad_cons (ped_bin opd_mul (ped_get C.hu (ped_var (pe_var (i := 2) rfl (.inl rfl))) (ped_int)) (ped_get C.hu (ped_var (pe_var (i := 4) rfl (.inr (.inl rfl)))) (ped_b1 cald_abs rfl M.b_abs boot_abs (pad_cons (ped_get C.hu (ped_var (pe_var (i := 2) rfl (.inl rfl))) (ped_int)) (pad_nil))))) (pad_nil)))))) (psd_nil)))))))) (psd_cons (psd_set (i := 8) nd rfl (.inl rfl) (ped_if (ptd_cmp opd_is (ped_var (pe_var (i := 3) rfl (.inl rfl))) (ped_non)) (ped_non) (ped_t1 cald_tuple rfl M.b_tuple boot_tuple (pad_cons (ped_sort C.hu C.calm rfl M.b_sorted (pad_cons (ped_lc (own := [("clause", 9)]) C.calm nd (pid_seq (ped_var (pe_var (i := 3) rfl (.inl rfl)))) (blkOk_by (by kernel_rfl)) (fun _ _ _ _ _ => pgd_one nd rfl (.inl rfl)) (fun _ _ _ _ _ => ptsd_nil) (fun _ _ _ _ _ => ped_call (cal__law_flipped M) C.blk (by decide) takesF rfl (pad_cons (ped_var (pe_var (i := 4) rfl (.inr (.inl rfl)))) (pad_cons (ped_var (pe_var (i := 9) rfl (.inl rfl))) (pad_nil)))) (by decide)) (pad_nil))) (pad_nil))))) (psd_one (psd_ret (ped_tup (pad_cons (ped_bin opd_add (ped_sl (ped_var (pe_var (i := 1) rfl (.inl rfl))) (pod_no) (pod_some (ped_int))) (ped_tup (pad_cons (ped_frz (ped_var (pe_var (i := 6) rfl (.inr (.inl rfl))))) (pad_nil)))) (pad_cons (ped_var (pe_var (i := 2) rfl (.inl rfl))) (pad_cons (ped_var (pe_var (i := 8) rfl (.inl rfl))) (pad_nil))))))))))))
theorem cal__law_turned (M : Md w K mg) : CalG P w K mg base 3 "_law_turned" 4 ff__law_turned := by
  obtain ⟨fd, F⟩ := M.d__law_turned
  exact ⟨_, fd, ["pen", "formula", "step", "made"], fnD F S__law_turned fun cdv A outer s H E C tk hp => b__law_turned M cdv A outer s H E C tk hp, M.g__law_turned, F.kp, FunD.bindsN F fun _ _ _ _ _ _ us hl => match us, hl with | [_, _, _, _], _ => rfl⟩
/-! is_rising -/
def N_is_rising : List Str := ["numbers", "one", "two"]
def m_is_rising : FSt := sRet (eB1 gAll (aCons (eLc (iZip (aCons (eVar 0) (aCons (eSl (eVar 0) (oSome (eC (.int 1))) (oNo)) (aNil)))) (.tup [1, 2]) [1, 2] (fYes) (eBin gLt (eVar 1) (eVar 2))) (aNil)))
def ff_is_rising : FF := fnRun N_is_rising.length m_is_rising
theorem S_is_rising : FnScope N_is_rising ["numbers"] (defScope (top 13)) := C8.fnScope_by (by decide +kernel)
theorem b_is_rising {fa : Addr} (M : Md w K mg) (cdv : Value) (A : Around) (outer : List Env) (s : Shared) (H : Hp) (E : XK)
    (C : Ctx (cxOf (L2.CX P w) P w K mg base N_is_rising "is_rising" (defScope (top 13)) fa cdv A outer s H E) 0) (tk : Takes (cxOf (L2.CX P w) P w K mg base N_is_rising "is_rising" (defScope (top 13)) fa cdv A outer s H E) (fun c d _ H' => E c d H'))
    (hp : PassesOwn (model P w) (A.deeper (envOfC "is_rising" (defScope (top 13)) s.heap.objs.size fa cdv)) (envOfC "is_rising" (defScope (top 13)) s.heap.objs.size fa cdv) (cxOf (L2.CX P w) P w K mg base N_is_rising "is_rising" (defScope (top 13)) fa cdv A outer s H E).xe) :
    PSsD (cxOf (L2.CX P w) P w K mg base N_is_rising "is_rising" (defScope (top 13)) fa cdv A outer s H E) (fun c d _ H' => E c d H') (defBody (top 13)) m_is_rising := by
  have nd : N_is_rising.Nodup := S_is_rising.nd
  exact psd_one (psd_ret (ped_b1 (cald_all C.calm) rfl M.b_all boot_all (pad_cons (ped_lc (own := [("one", 1), ("two", 2)]) C.calm nd (pid_zip rfl M.b_zip (pad_cons (ped_var (pe_var (i := 0) rfl (.inl rfl))) (pad_cons (ped_sl (ped_var (pe_var (i := 0) rfl (.inl rfl))) (pod_some (ped_int)) (pod_no)) (pad_nil)))) (blkOk_by (by kernel_rfl)) (fun _ _ _ _ _ => pgd_tup C.calm (pgds_cons (i := 1) nd rfl (.inl rfl) (pgds_cons (i := 2) nd rfl (.inl rfl) (pgds_nil)))) (fun _ _ _ _ _ => ptsd_nil) (fun _ _ _ _ _ => ped_cmp (opd_lt C.blk.hu) (ped_var (pe_var (i := 1) rfl (.inl rfl))) (ped_var (pe_var (i := 2) rfl (.inl rfl)))) (by decide)) (pad_nil))))
theorem cal_is_rising (M : Md w K mg) : CalG P w K mg base 1 "is_rising" 1 ff_is_rising := by
  obtain ⟨fd, F⟩ := M.d_is_rising
  exact ⟨_, fd, ["numbers"], fnD F S_is_rising fun cdv A outer s H E C tk hp => b_is_rising M cdv A outer s H E C tk hp, M.g_is_rising, F.kp, FunD.bindsN F fun _ _ _ _ _ _ us hl => match us, hl with | [_], _ => rfl⟩
/-! is_whole -/
def N_is_whole : List Str := ["value"]
def m_is_whole : FSt := sRet (eAnd (eIsa "int" (eVar 0)) (eNot (eIsa "bool" (eVar 0))))
def ff_is_whole : FF := fnRun N_is_whole.length m_is_whole
theorem S_is_whole : FnScope N_is_whole ["value"] (defScope (top 5)) := C8.fnScope_by (by decide +kernel)
theorem b_is_whole {fa : Addr} (M : Md w K mg) (cdv : Value) (A : Around) (outer : List Env) (s : Shared) (H : Hp) (E : XK)
    (C : Ctx (cxOf (L2.CX P w) P w K mg base N_is_whole "is_whole" (defScope (top 5)) fa cdv A outer s H E) 0) (tk : Takes (cxOf (L2.CX P w) P w K mg base N_is_whole "is_whole" (defScope (top 5)) fa cdv A outer s H E) (fun c d _ H' => E c d H'))
    (hp : PassesOwn (model P w) (A.deeper (envOfC "is_whole" (defScope (top 5)) s.heap.objs.size fa cdv)) (envOfC "is_whole" (defScope (top 5)) s.heap.objs.size fa cdv) (cxOf (L2.CX P w) P w K mg base N_is_whole "is_whole" (defScope (top 5)) fa cdv A outer s H E).xe) :
    PSsD (cxOf (L2.CX P w) P w K mg base N_is_whole "is_whole" (defScope (top 5)) fa cdv A outer s H E) (fun c d _ H' => E c d H') (defBody (top 5)) m_is_whole := by
  have nd : N_is_whole.Nodup := S_is_whole.nd
  exact psd_one (psd_ret (ped_and (ped_isa (T := "int") rfl M.b_isinstance rfl M.b_int boot_int (ped_var (pe_var (i := 0) rfl (.inl rfl)))) (ped_one (ped_not (ped_isa (T := "bool") rfl M.b_isinstance rfl M.b_bool boot_bool (ped_var (pe_var (i := 0) rfl (.inl rfl))))))))
theorem cal_is_whole (M : Md w K mg) : CalG P w K mg base 1 "is_whole" 1 ff_is_whole := by
  obtain ⟨fd, F⟩ := M.d_is_whole
  exact ⟨_, fd, ["value"], fnD F S_is_whole fun cdv A outer s H E C tk hp => b_is_whole M cdv A outer s H E C tk hp, M.g_is_whole, F.kp, FunD.bindsN F fun _ _ _ _ _ _ us hl => match us, hl with | [_], _ => rfl⟩
/-! is_count -/
def N_is_count : List Str := ["value"]
def m_is_count : FSt := sRet (eAnd (eCall 1 ff_is_whole (aCons (eVar 0) (aNil))) (eBin gGe (eVar 0) (eC (.int 0))))
def ff_is_count : FF := fnRun N_is_count.length m_is_count
theorem S_is_count : FnScope N_is_count ["value"] (defScope (top 6)) := C8.fnScope_by (by decide +kernel)
theorem b_is_count {fa : Addr} (M : Md w K mg) (cdv : Value) (A : Around) (outer : List Env) (s : Shared) (H : Hp) (E : XK)
    (C : Ctx (cxOf (L2.CX P w) P w K mg base N_is_count "is_count" (defScope (top 6)) fa cdv A outer s H E) 1) (tk : Takes (cxOf (L2.CX P w) P w K mg base N_is_count "is_count" (defScope (top 6)) fa cdv A outer s H E) (fun c d _ H' => E c d H'))
    (hp : PassesOwn (model P w) (A.deeper (envOfC "is_count" (defScope (top 6)) s.heap.objs.size fa cdv)) (envOfC "is_count" (defScope (top 6)) s.heap.objs.size fa cdv) (cxOf (L2.CX P w) P w K mg base N_is_count "is_count" (defScope (top 6)) fa cdv A outer s H E).xe) :
    PSsD (cxOf (L2.CX P w) P w K mg base N_is_count "is_count" (defScope (top 6)) fa cdv A outer s H E) (fun c d _ H' => E c d H') (defBody (top 6)) m_is_count := by
  have nd : N_is_count.Nodup := S_is_count.nd
  exact psd_one (psd_ret (ped_and (ped_call (cal_is_whole M) C (by decide) tk rfl (pad_cons (ped_var (pe_var (i := 0) rfl (.inl rfl))) (pad_nil))) (ped_one (ped_cmp (opd_ge C.hu) (ped_var (pe_var (i := 0) rfl (.inl rfl))) (ped_int)))))
theorem cal_is_count (M : Md w K mg) : CalG P w K mg base 2 "is_count" 1 ff_is_count := by
  obtain ⟨fd, F⟩ := M.d_is_count
  exact ⟨_, fd, ["value"], fnD F S_is_count fun cdv A outer s H E C tk hp => b_is_count M cdv A outer s H E C tk hp, M.g_is_count, F.kp, FunD.bindsN F fun _ _ _ _ _ _ us hl => match us, hl with | [_], _ => rfl⟩
/-! is_look -/
def N_is_look : List Str := ["a", "value", "item"]
def m_is_look : FSt := sSeq (sIf (tOrD (tNotD (toT (eIsa "tuple" (eVar 1)))) (toB (eBin gGt (eB1 gLen (aCons (eVar 1) (aNil))) (eC (.int 3))))) (sRet (eC (.bool false))) (sNx)) (sRet (eAnd (eB1 gAll (aCons (eLc (iSeq (eVar 1)) (.one 2) [2] (fYes) (eAnd (eCall 1 ff_is_whole (aCons (eVar 2) (aNil))) (eChain gLt gLe (eC (.int 0)) (eVar 2) (eVar 0)))) (aNil))) (eCall 1 ff_is_rising (aCons (eVar 1) (aNil)))))
def ff_is_look : FF := fnRun N_is_look.length m_is_look
theorem S_is_look : FnScope N_is_look ["a", "value"] (defScope (top 15)) := C8.fnScope_by (by decide +kernel)
theorem b_is_look {fa : Addr} (M : Md w K mg) (cdv : Value) (A : Around) (outer : List Env) (s : Shared) (H : Hp) (E : XK)
    (C : Ctx (cxOf (L2.CX P w) P w K mg base N_is_look "is_look" (defScope (top 15)) fa cdv A outer s H E) 1) (tk : Takes (cxOf (L2.CX P w) P w K mg base N_is_look "is_look" (defScope (top 15)) fa cdv A outer s H E) (fun c d _ H' => E c d H'))
    (hp : PassesOwn (model P w) (A.deeper (envOfC "is_look" (defScope (top 15)) s.heap.objs.size fa cdv)) (envOfC "is_look" (defScope (top 15)) s.heap.objs.size fa cdv) (cxOf (L2.CX P w) P w K mg base N_is_look "is_look" (defScope (top 15)) fa cdv A outer s H E).xe) :
    PSsD (cxOf (L2.CX P w) P w K mg base N_is_look "is_look" (defScope (top 15)) fa cdv A outer s H E) (fun c d _ H' => E c d H') (defBody (top 15)) m_is_look := by
  have nd : N_is_look.Nodup := S_is_look.nd
  exact psd_cons (psd_if (ptd_w (pwd_or (ptd_not (ptd_val (ped_isa (T := "tuple") rfl M.b_isinstance rfl M.b_tuple boot_tuple (ped_var (pe_var (i := 1) rfl (.inl rfl)))))) (pwd_one_or (ptd_cmp (opd_gt C.hu) (ped_b1 cald_len rfl M.b_len boot_len (pad_cons (ped_var (pe_var (i := 1) rfl (.inl rfl))) (pad_nil))) (ped_gint rfl M.n_MOST_LOOKS))))) (psd_one (psd_ret (ped_bl))) (psd_nil)) (psd_one (psd_ret (ped_and (ped_b1 (cald_all C.calm) rfl M.b_all boot_all (pad_cons (ped_lc (own := [("item", 2)]) C.calm nd (pid_seq (ped_var (pe_var (i := 1) rfl (.inl rfl)))) (blkOk_by (by kernel_rfl)) (fun _ _ _ _ _ => pgd_one nd rfl (.inl rfl)) (fun _ _ _ _ _ => ptsd_nil) (fun _ _ _ _ _ => ped_and (ped_call (cal_is_whole M) C.blk (by decide) takesF rfl (pad_cons (ped_var (pe_var (i := 2) rfl (.inl rfl))) (pad_nil))) (ped_one (ped_chain (opd_lt C.blk.hu) (opd_le C.blk.hu) (ped_int) (ped_var (pe_var (i := 2) rfl (.inl rfl))) (ped_var (pe_var (i := 0) rfl (.inr (.inl rfl))))))) (by decide)) (pad_nil))) (ped_one (ped_call (cal_is_rising M) C (by decide) tk rfl (pad_cons (ped_var (pe_var (i := 1) rfl (.inl rfl))) (pad_nil)))))))
theorem cal_is_look (M : Md w K mg) : CalG P w K mg base 2 "is_look" 2 ff_is_look := by
  obtain ⟨fd, F⟩ := M.d_is_look
  exact ⟨_, fd, ["a", "value"], fnD F S_is_look fun cdv A outer s H E C tk hp => b_is_look M cdv A outer s H E C tk hp, M.g_is_look, F.kp, FunD.bindsN F fun _ _ _ _ _ _ us hl => match us, hl with | [_, _], _ => rfl⟩
/-! are_bits_in -/
def N_are_bits_in : List Str := ["a", "looks", "look"]
def m_are_bits_in : FSt := sSeq (sIf (tOrD (tNotD (toT (eCall 1 ff_is_count (aCons (eVar 0) (aNil))))) (tOrD (toB (eBin gGt (eVar 0) (eC (.int 4)))) (tOrD (tNotD (toT (eIsa "tuple" (eVar 1)))) (toB (eBin gGt (eB1 gLen (aCons (eVar 1) (aNil))) (eC (.int 6))))))) (sRet (eC (.bool false))) (sNx)) (sRet (eAnd (eChain gLt gLe (eC (.int 0)) (eBin gAdd (eVar 0) (eB1 gLen (aCons (eVar 1) (aNil)))) (eC (.int 9))) (eB1 gAll (aCons (eLc (iSeq (eVar 1)) (.one 2) [2] (fYes) (eCall 2 ff_is_look (aCons (eVar 0) (aCons (eVar 2) (aNil))))) (aNil)))))
def ff_are_bits_in : FF := fnRun N_are_bits_in.length m_are_bits_in
theorem S_are_bits_in : FnScope N_are_bits_in ["a", "looks"] (defScope (top 16)) := C8.fnScope_by (by decide +kernel)
theorem b_are_bits_in {fa : Addr} (M : Md w K mg) (cdv : Value) (A : Around) (outer : List Env) (s : Shared) (H : Hp) (E : XK)
    (C : Ctx (cxOf (L2.CX P w) P w K mg base N_are_bits_in "are_bits_in" (defScope (top 16)) fa cdv A outer s H E) 2) (tk : Takes (cxOf (L2.CX P w) P w K mg base N_are_bits_in "are_bits_in" (defScope (top 16)) fa cdv A outer s H E) (fun c d _ H' => E c d H'))
    (hp : PassesOwn (model P w) (A.deeper (envOfC "are_bits_in" (defScope (top 16)) s.heap.objs.size fa cdv)) (envOfC "are_bits_in" (defScope (top 16)) s.heap.objs.size fa cdv) (cxOf (L2.CX P w) P w K mg base N_are_bits_in "are_bits_in" (defScope (top 16)) fa cdv A outer s H E).xe) :
    PSsD (cxOf (L2.CX P w) P w K mg base N_are_bits_in "are_bits_in" (defScope (top 16)) fa cdv A outer s H E) (fun c d _ H' => E c d H') (defBody (top 16)) m_are_bits_in := by
  have nd : N_are_bits_in.Nodup := S_are_bits_in.nd
  exact psd_cons (psd_if (ptd_w (pwd_or (ptd_not (ptd_val (ped_call (cal_is_count M) C (by decide) tk rfl (pad_cons (ped_var (pe_var (i := 0) rfl (.inr (.inl rfl)))) (pad_nil))))) (pwd_or (ptd_cmp (opd_gt C.hu) (ped_var (pe_var (i := 0) rfl (.inr (.inl rfl)))) (ped_gint rfl M.n_MOST_ASKED)) (pwd_or (ptd_not (ptd_val (ped_isa (T := "tuple") rfl M.b_isinstance rfl M.b_tuple boot_tuple (ped_var (pe_var (i := 1) rfl (.inl rfl)))))) (pwd_one_or (ptd_cmp (opd_gt C.hu) (ped_b1 cald_len rfl M.b_len boot_len (pad_cons (ped_var (pe_var (i := 1) rfl (.inl rfl))) (pad_nil))) (ped_gint rfl M.n_MOST_ANSWERS))))))) (psd_one (psd_ret (ped_bl))) (psd_nil)) (psd_one (psd_ret (ped_and (ped_chain (opd_lt C.hu) (opd_le C.hu) (ped_int) (ped_bin opd_add (ped_var (pe_var (i := 0) rfl (.inr (.inl rfl)))) (ped_b1 cald_len rfl M.b_len boot_len (pad_cons (ped_var (pe_var (i := 1) rfl (.inl rfl))) (pad_nil)))) (ped_gint rfl M.n_MOST_BITS)) (ped_one (ped_b1 (cald_all C.calm) rfl M.b_all boot_all (pad_cons (ped_lc (own := [("look", 2)]) C.calm nd (pid_seq (ped_var (pe_var (i := 1) rfl (.inl rfl)))) (blkOk_by (by kernel_rfl)) (fun _ _ _ _ _ => pgd_one nd rfl (.inl rfl)) (fun _ _ _ _ _ => ptsd_nil) (fun _ _ _ _ _ => ped_call (cal_is_look M) C.blk (by decide) takesF rfl (pad_cons (ped_var (pe_var (i := 0) rfl (.inr (.inl rfl)))) (pad_cons (ped_var (pe_var (i := 2) rfl (.inl rfl))) (pad_nil)))) (by decide)) (pad_nil)))))))
theorem cal_are_bits_in (M : Md w K mg) : CalG P w K mg base 3 "are_bits_in" 2 ff_are_bits_in := by
  obtain ⟨fd, F⟩ := M.d_are_bits_in
  exact ⟨_, fd, ["a", "looks"], fnD F S_are_bits_in fun cdv A outer s H E C tk hp => b_are_bits_in M cdv A outer s H E C tk hp, M.g_are_bits_in, F.kp, FunD.bindsN F fun _ _ _ _ _ _ us hl => match us, hl with | [_, _], _ => rfl⟩
/-! is_clause_in -/
def N_is_clause_in : List Str := ["n", "value", "item"]
def m_is_clause_in : FSt := sSeq (sIf (tOrD (tNotD (toT (eIsa "tuple" (eVar 1)))) (tNotD (toT (eB1 gAll (aCons (eLc (iSeq (eVar 1)) (.one 2) [2] (fYes) (eAnd (eCall 1 ff_is_whole (aCons (eVar 2) (aNil))) (eChain gLt gLe (eC (.int 0)) (eB1 gAbs (aCons (eVar 2) (aNil))) (eVar 0)))) (aNil)))))) (sRet (eC (.bool false))) (sNx)) (sRet (eCall 1 ff_is_rising (aCons (eLc (iSeq (eVar 1)) (.one 2) [2] (fYes) (eB1 gAbs (aCons (eVar 2) (aNil)))) (aNil))))
def ff_is_clause_in : FF := fnRun N_is_clause_in.length m_is_clause_in
theorem S_is_clause_in : FnScope N_is_clause_in ["n", "value"] (defScope (top 14)) := C8.fnScope_by (by decide +kernel)
theorem b_is_clause_in {fa : Addr} (M : Md w K mg) (cdv : Value) (A : Around) (outer : List Env) (s : Shared) (H : Hp) (E : XK)
    (C : Ctx (cxOf (L2.CX P w) P w K mg base N_is_clause_in "is_clause_in" (defScope (top 14)) fa cdv A outer s H E) 1) (tk : Takes (cxOf (L2.CX P w) P w K mg base N_is_clause_in "is_clause_in" (defScope (top 14)) fa cdv A outer s H E) (fun c d _ H' => E c d H'))
    (hp : PassesOwn (model P w) (A.deeper (envOfC "is_clause_in" (defScope (top 14)) s.heap.objs.size fa cdv)) (envOfC "is_clause_in" (defScope (top 14)) s.heap.objs.size fa cdv) (cxOf (L2.CX P w) P w K mg base N_is_clause_in "is_clause_in" (defScope (top 14)) fa cdv A outer s H E).xe) :
    PSsD (cxOf (L2.CX P w) P w K mg base N_is_clause_in "is_clause_in" (defScope (top 14)) fa cdv A outer s H E) (fun c d _ H' => E c d H') (defBody (top 14)) m_is_clause_in := by
  have nd : N_is_clause_in.Nodup := S_is_clause_in.nd
  exact psd_cons (psd_if (ptd_w (pwd_or (ptd_not (ptd_val (ped_isa (T := "tuple") rfl M.b_isinstance rfl M.b_tuple boot_tuple (ped_var (pe_var (i := 1) rfl (.inl rfl)))))) (pwd_one_or (ptd_not (ptd_val (ped_b1 (cald_all C.calm) rfl M.b_all boot_all (pad_cons (ped_lc (own := [("item", 2)]) C.calm nd (pid_seq (ped_var (pe_var (i := 1) rfl (.inl rfl)))) (blkOk_by (by kernel_rfl)) (fun _ _ _ _ _ => pgd_one nd rfl (.inl rfl)) (fun _ _ _ _ _ => ptsd_nil) (fun _ _ _ _ _ => ped_and (ped_call (cal_is_whole M) C.blk (by decide) takesF rfl (pad_cons (ped_var (pe_var (i := 2) rfl (.inl rfl))) (pad_nil))) (ped_one (ped_chain (opd_lt C.blk.hu) (opd_le C.blk.hu) (ped_int) (ped_b1 cald_abs rfl M.b_abs boot_abs (pad_cons (ped_var (pe_var (i := 2) rfl (.inl rfl))) (pad_nil))) (ped_var (pe_var (i := 0) rfl (.inr (.inl rfl))))))) (by decide)) (pad_nil)))))))) (psd_one (psd_ret (ped_bl))) (psd_nil)) (psd_one (psd_ret (ped_call (cal_is_rising M) C (by decide) tk rfl (pad_cons (ped_lc (own := [("item", 2)]) C.calm nd (pid_seq (ped_var (pe_var (i := 1) rfl (.inl rfl)))) (blkOk_by (by kernel_rfl)) (fun _ _ _ _ _ => pgd_one nd rfl (.inl rfl)) (fun _ _ _ _ _ => ptsd_nil) (fun _ _ _ _ _ => ped_b1 cald_abs rfl M.b_abs boot_abs (pad_cons (ped_var (pe_var (i := 2) rfl (.inl rfl))) (pad_nil))) (by decide)) (pad_nil)))))
theorem cal_is_clause_in (M : Md w K mg) : CalG P w K mg base 2 "is_clause_in" 2 ff_is_clause_in := by
  obtain ⟨fd, F⟩ := M.d_is_clause_in
  exact ⟨_, fd, ["n", "value"], fnD F S_is_clause_in fun cdv A outer s H E C tk hp => b_is_clause_in M cdv A outer s H E C tk hp, M.g_is_clause_in, F.kp, FunD.bindsN F fun _ _ _ _ _ _ us hl => match us, hl with | [_, _], _ => rfl⟩
/-! is_formula_in -/
def N_is_formula_in : List Str := ["value", "n", "clauses", "clause"]
def m_is_formula_in : FSt := sSeq (sIf (tOrD (tNotD (toT (eIsa "tuple" (eVar 0)))) (tOrD (toB (eBin gNe (eB1 gLen (aCons (eVar 0) (aNil))) (eC (.int 3)))) (tNotD (toT (eCall 2 ff_are_bits_in (aCons (e2 ixD (eVar 0) (eC (.int 0))) (aCons (e2 ixD (eVar 0) (eC (.int 1))) (aNil)))))))) (sRet (eC (.bool false))) (sNx)) (sSeq (sAsg (.tup [1, 2]) (eTup (aCons (eBin gAdd (e2 ixD (eVar 0) (eC (.int 0))) (eB1 gLen (aCons (e2 ixD (eVar 0) (eC (.int 1))) (aNil)))) (aCons (e2 ixD (eVar 0) (eC (.int 2))) (aNil))))) (sSeq (sIf (tOrD (tNotD (toT (eIsa "tuple" (eVar 2)))) (toB (eBin gGt (eB1 gLen (aCons (eVar 2) (aNil))) (eC (.int 16))))) (sRet (eC (.bool false))) (sNx)) (sRet (eAnd (eB1 gAll (aCons (eLc (iSeq (eVar 2)) (.one 3) [3] (fYes) (eCall 2 ff_is_clause_in (aCons (eVar 1) (aCons (eVar 3) (aNil))))) (aNil))) (eCall 1 ff_is_rising (aCons (eVar 2) (aNil)))))))
def ff_is_formula_in : FF := fnRun N_is_formula_in.length m_is_formula_in
theorem S_is_formula_in : FnScope N_is_formula_in ["value"] (defScope (top 17)) := C8.fnScope_by (by decide +kernel)
theorem b_is_formula_in {fa : Addr} (M : Md w K mg) (cdv : Value) (A : Around) (outer : List Env) (s : Shared) (H : Hp) (E : XK)
    (C : Ctx (cxOf (L2.CX P w) P w K mg base N_is_formula_in "is_formula_in" (defScope (top 17)) fa cdv A outer s H E) 3) (tk : Takes (cxOf (L2.CX P w) P w K mg base N_is_formula_in "is_formula_in" (defScope (top 17)) fa cdv A outer s H E) (fun c d _ H' => E c d H'))
    (hp : PassesOwn (model P w) (A.deeper (envOfC "is_formula_in" (defScope (top 17)) s.heap.objs.size fa cdv)) (envOfC "is_formula_in" (defScope (top 17)) s.heap.objs.size fa cdv) (cxOf (L2.CX P w) P w K mg base N_is_formula_in "is_formula_in" (defScope (top 17)) fa cdv A outer s H E).xe) :
    PSsD (cxOf (L2.CX P w) P w K mg base N_is_formula_in "is_formula_in" (defScope (top 17)) fa cdv A outer s H E) (fun c d _ H' => E c d H') (defBody (top 17)) m_is_formula_in := by
  have nd : N_is_formula_in.Nodup := S_is_formula_in.nd
  exact psd_cons (psd_if (ptd_w (pwd_or (ptd_not (ptd_val (ped_isa (T := "tuple") rfl M.b_isinstance rfl M.b_tuple boot_tuple (ped_var (pe_var (i := 0) rfl (.inl rfl)))))) (pwd_or (ptd_cmp (opd_ne C.hu) (ped_b1 cald_len rfl M.b_len boot_len (pad_cons (ped_var (pe_var (i := 0) rfl (.inl rfl))) (pad_nil))) (ped_int)) (pwd_one_or (ptd_not (ptd_val (ped_call (cal_are_bits_in M) C (by decide) tk rfl (pad_cons (ped_get C.hu (ped_var (pe_var (i := 0) rfl (.inl rfl))) (ped_int)) (pad_cons (ped_get C.hu (ped_var (pe_var (i := 0) rfl (.inl rfl))) (ped_int)) (pad_nil)))))))))) (psd_one (psd_ret (ped_bl))) (psd_nil)) (psd_cons (psd_asg (ped_tup (pad_cons (ped_bin opd_add (ped_get C.hu (ped_var (pe_var (i := 0) rfl (.inl rfl))) (ped_int)) (ped_b1 cald_len rfl M.b_len boot_len (pad_cons (ped_get C.hu (ped_var (pe_var (i := 0) rfl (.inl rfl))) (ped_int)) (pad_nil)))) (pad_cons (ped_get C.hu (ped_var (pe_var (i := 0) rfl (.inl rfl))) (ped_int)) (pad_nil)))) (pgd_tup C.calm (pgds_cons (i := 1) nd rfl (.inr rfl) (pgds_cons (i := 2) nd rfl (.inl rfl) (pgds_nil))))) (psd_cons (psd_if (ptd_w (pwd_or (ptd_not (ptd_val (ped_isa (T := "tuple") rfl M.b_isinstance rfl M.b_tuple boot_tuple (ped_var (pe_var (i := 2) rfl (.inl rfl)))))) (pwd_one_or (ptd_cmp (opd_gt C.hu) (ped_b1 cald_len rfl M.b_len boot_len (pad_cons (ped_var (pe_var (i := 2) rfl (.inl rfl))) (pad_nil))) (ped_gint rfl M.n_MOST_CLAUSES))))) (psd_one (psd_ret (ped_bl))) (psd_nil)) (psd_one (psd_ret (ped_and (ped_b1 (cald_all C.calm) rfl M.b_all boot_all (pad_cons (ped_lc (own := [("clause", 3)]) C.calm nd (pid_seq (ped_var (pe_var (i := 2) rfl (.inl rfl)))) (blkOk_by (by kernel_rfl)) (fun _ _ _ _ _ => pgd_one nd rfl (.inl rfl)) (fun _ _ _ _ _ => ptsd_nil) (fun _ _ _ _ _ => ped_call (cal_is_clause_in M) C.blk (by decide) takesF rfl (pad_cons (ped_var (pe_var (i := 1) rfl (.inr (.inl rfl)))) (pad_cons (ped_var (pe_var (i := 3) rfl (.inl rfl))) (pad_nil)))) (by decide)) (pad_nil))) (ped_one (ped_call (cal_is_rising M) C (by decide) tk rfl (pad_cons (ped_var (pe_var (i := 2) rfl (.inl rfl))) (pad_nil)))))))))
theorem cal_is_formula_in (M : Md w K mg) : CalG P w K mg base 4 "is_formula_in" 1 ff_is_formula_in := by
  obtain ⟨fd, F⟩ := M.d_is_formula_in
  exact ⟨_, fd, ["value"], fnD F S_is_formula_in fun cdv A outer s H E C tk hp => b_is_formula_in M cdv A outer s H E C tk hp, M.g_is_formula_in, F.kp, FunD.bindsN F fun _ _ _ _ _ _ us hl => match us, hl with | [_], _ => rfl⟩
/-! need_formula -/
def N_need_formula : List Str := ["formula"]
def m_need_formula : FSt := sIf (tNotD (toT (eCall 1 ff_is_formula_in (aCons (eVar 0) (aNil))))) (sNever) (sNx)
def ff_need_formula : FF := fnRun N_need_formula.length m_need_formula
theorem S_need_formula : FnScope N_need_formula ["formula"] (defScope (top 18)) := C8.fnScope_by (by decide +kernel)
theorem b_need_formula {fa : Addr} (M : Md w K mg) (cdv : Value) (A : Around) (outer : List Env) (s : Shared) (H : Hp) (E : XK)
    (C : Ctx (cxOf (L2.CX P w) P w K mg base N_need_formula "need_formula" (defScope (top 18)) fa cdv A outer s H E) 4) (tk : Takes (cxOf (L2.CX P w) P w K mg base N_need_formula "need_formula" (defScope (top 18)) fa cdv A outer s H E) (fun c d _ H' => E c d H'))
    (hp : PassesOwn (model P w) (A.deeper (envOfC "need_formula" (defScope (top 18)) s.heap.objs.size fa cdv)) (envOfC "need_formula" (defScope (top 18)) s.heap.objs.size fa cdv) (cxOf (L2.CX P w) P w K mg base N_need_formula "need_formula" (defScope (top 18)) fa cdv A outer s H E).xe) :
    PSsD (cxOf (L2.CX P w) P w K mg base N_need_formula "need_formula" (defScope (top 18)) fa cdv A outer s H E) (fun c d _ H' => E c d H') (defBody (top 18)) m_need_formula := by
  have nd : N_need_formula.Nodup := S_need_formula.nd
  exact psd_one (psd_if (ptd_not (ptd_val (ped_call (cal_is_formula_in M) C (by decide) tk rfl (pad_cons (ped_var (pe_var (i := 0) rfl (.inl rfl))) (pad_nil))))) (psd_one (psd_never)) (psd_nil))
theorem cal_need_formula (M : Md w K mg) : CalG P w K mg base 5 "need_formula" 1 ff_need_formula := by
  obtain ⟨fd, F⟩ := M.d_need_formula
  exact ⟨_, fd, ["formula"], fnD F S_need_formula fun cdv A outer s H E C tk hp => b_need_formula M cdv A outer s H E C tk hp, M.g_need_formula, F.kp, FunD.bindsN F fun _ _ _ _ _ _ us hl => match us, hl with | [_], _ => rfl⟩
/-! is_step_form -/
def N_is_step_form : List Str := ["value", "item"]
def m_is_step_form : FSt := sSeq (sIf (tOrD (tNotD (toT (eIsa "tuple" (eVar 0)))) (tOrD (toB (eBin gEq (eVar 0) (eTup (aNil)))) (tOrD (tNotD (toT (eIsa "str" (e2 ixD (eVar 0) (eC (.int 0)))))) (toB (eTabIn tb_WORDS true (e2 ixD (eVar 0) (eC (.int 0)))))))) (sRet (eC (.bool false))) (sNx)) (sSeq (sIf (tOrD (toB (eBin gNe (eB1 gLen (aCons (eVar 0) (aNil))) (eBin gAdd (eC (.int 1)) (eTab tb_WORDS (e2 ixD (eVar 0) (eC (.int 0))))))) (tNotD (toT (eB1 gAll (aCons (eLc (iSeq (eSl (eVar 0) (oSome (eC (.int 1))) (oNo))) (.one 1) [1] (fYes) (eCall 1 ff_is_whole (aCons (eVar 1) (aNil)))) (aNil)))))) (sRet (eC (.bool false))) (sNx)) (sSeq (sIf (toB (e2 (inD gIn false) (e2 ixD (eVar 0) (eC (.int 0))) (eTup (aCons (eC (.str "pure")) (aCons (eC (.str "block")) (aNil)))))) (sRet (eAnd (eBin gNe (e2 ixD (eVar 0) (eUn gNeg (eC (.int 1)))) (eC (.int 0))) (eB1 gAll (aCons (eLc (iSeq (eSl (eVar 0) (oSome (eC (.int 1))) (oSome (eUn gNeg (eC (.int 1)))))) (.one 1) [1] (fYes) (eBin gGe (eVar 1) (eC (.int 0)))) (aNil))))) (sNx)) (sRet (eB1 gAll (aCons (eLc (iSeq (eSl (eVar 0) (oSome (eC (.int 1))) (oNo))) (.one 1) [1] (fYes) (eBin gGe (eVar 1) (eC (.int 0)))) (aNil))))))
def ff_is_step_form : FF := fnRun N_is_step_form.length m_is_step_form
theorem S_is_step_form : FnScope N_is_step_form ["value"] (defScope (top 26)) := C8.fnScope_by (by decide +kernel)
theorem b_is_step_form {fa : Addr} (M : Md w K mg) (cdv : Value) (A : Around) (outer : List Env) (s : Shared) (H : Hp) (E : XK)
    (C : Ctx (cxOf (L2.CX P w) P w K mg base N_is_step_form "is_step_form" (defScope (top 26)) fa cdv A outer s H E) 1) (tk : Takes (cxOf (L2.CX P w) P w K mg base N_is_step_form "is_step_form" (defScope (top 26)) fa cdv A outer s H E) (fun c d _ H' => E c d H'))
    (hp : PassesOwn (model P w) (A.deeper (envOfC "is_step_form" (defScope (top 26)) s.heap.objs.size fa cdv)) (envOfC "is_step_form" (defScope (top 26)) s.heap.objs.size fa cdv) (cxOf (L2.CX P w) P w K mg base N_is_step_form "is_step_form" (defScope (top 26)) fa cdv A outer s H E).xe) :
    PSsD (cxOf (L2.CX P w) P w K mg base N_is_step_form "is_step_form" (defScope (top 26)) fa cdv A outer s H E) (fun c d _ H' => E c d H') (defBody (top 26)) m_is_step_form := by
  have nd : N_is_step_form.Nodup := S_is_step_form.nd
  exact psd_cons (psd_if (ptd_w (pwd_or (ptd_not (ptd_val (ped_isa (T := "tuple") rfl M.b_isinstance rfl M.b_tuple boot_tuple (ped_var (pe_var (i := 0) rfl (.inl rfl)))))) (pwd_or (ptd_cmp (opd_eq C.hu) (ped_var (pe_var (i := 0) rfl (.inl rfl))) (ped_tup (pad_nil))) (pwd_or (ptd_not (ptd_val (ped_isa (T := "str") rfl M.b_isinstance rfl M.b_str boot_str (ped_get C.hu (ped_var (pe_var (i := 0) rfl (.inl rfl))) (ped_int))))) (pwd_one_or (ptd_tabNotIn M.t_WORDS rfl (ped_get C.hu (ped_var (pe_var (i := 0) rfl (.inl rfl))) (ped_int)))))))) (psd_one (psd_ret (ped_bl))) (psd_nil)) (psd_cons (psd_if (ptd_w (pwd_or (ptd_cmp (opd_ne C.hu) (ped_b1 cald_len rfl M.b_len boot_len (pad_cons (ped_var (pe_var (i := 0) rfl (.inl rfl))) (pad_nil))) (ped_bin opd_add (ped_int) (ped_tab M.t_WORDS rfl (ped_get C.hu (ped_var (pe_var (i := 0) rfl (.inl rfl))) (ped_int))))) (pwd_one_or (ptd_not (ptd_val (ped_b1 (cald_all C.calm) rfl M.b_all boot_all (pad_cons (ped_lc (own := [("item", 1)]) C.calm nd (pid_seq (ped_sl (ped_var (pe_var (i := 0) rfl (.inl rfl))) (pod_some (ped_int)) (pod_no))) (blkOk_by (by kernel_rfl)) (fun _ _ _ _ _ => pgd_one nd rfl (.inl rfl)) (fun _ _ _ _ _ => ptsd_nil) (fun _ _ _ _ _ => ped_call (cal_is_whole M) C.blk (by decide) takesF rfl (pad_cons (ped_var (pe_var (i := 1) rfl (.inl rfl))) (pad_nil))) (by decide)) (pad_nil)))))))) (psd_one (psd_ret (ped_bl))) (psd_nil)) (psd_cons (psd_if (ptd_in C.hu (ped_get C.hu (ped_var (pe_var (i := 0) rfl (.inl rfl))) (ped_int)) (ped_tup (pad_cons (ped_str) (pad_cons (ped_str) (pad_nil))))) (psd_one (psd_ret (ped_and (ped_cmp (opd_ne C.hu) (ped_get C.hu (ped_var (pe_var (i := 0) rfl (.inl rfl))) (ped_neg (ped_int))) (ped_int)) (ped_one (ped_b1 (cald_all C.calm) rfl M.b_all boot_all (pad_cons (ped_lc (own := [("item", 1)]) C.calm nd (pid_seq (ped_sl (ped_var (pe_var (i := 0) rfl (.inl rfl))) (pod_some (ped_int)) (pod_some (ped_neg (ped_int))))) (blkOk_by (by kernel_rfl)) (fun _ _ _ _ _ => pgd_one nd rfl (.inl rfl)) (fun _ _ _ _ _ => ptsd_nil) (fun _ _ _ _ _ => ped_cmp (opd_ge C.blk.hu) (ped_var (pe_var (i := 1) rfl (.inl rfl))) (ped_int)) (by decide)) (pad_nil))))))) (psd_nil)) (psd_one (psd_ret (ped_b1 (cald_all C.calm) rfl M.b_all boot_all (pad_cons (ped_lc (own := [("item", 1)]) C.calm nd (pid_seq (ped_sl (ped_var (pe_var (i := 0) rfl (.inl rfl))) (pod_some (ped_int)) (pod_no))) (blkOk_by (by kernel_rfl)) (fun _ _ _ _ _ => pgd_one nd rfl (.inl rfl)) (fun _ _ _ _ _ => ptsd_nil) (fun _ _ _ _ _ => ped_cmp (opd_ge C.blk.hu) (ped_var (pe_var (i := 1) rfl (.inl rfl))) (ped_int)) (by decide)) (pad_nil)))))))
theorem cal_is_step_form (M : Md w K mg) : CalG P w K mg base 2 "is_step_form" 1 ff_is_step_form := by
  obtain ⟨fd, F⟩ := M.d_is_step_form
  exact ⟨_, fd, ["value"], fnD F S_is_step_form fun cdv A outer s H E C tk hp => b_is_step_form M cdv A outer s H E C tk hp, M.g_is_step_form, F.kp, FunD.bindsN F fun _ _ _ _ _ _ us hl => match us, hl with | [_], _ => rfl⟩
/-! are_steps_form -/
def N_are_steps_form : List Str := ["value", "step"]
def m_are_steps_form : FSt := sRet (eAnd (eIsa "tuple" (eVar 0)) (eB1 gAll (aCons (eLc (iSeq (eVar 0)) (.one 1) [1] (fYes) (eCall 1 ff_is_step_form (aCons (eVar 1) (aNil)))) (aNil))))
def ff_are_steps_form : FF := fnRun N_are_steps_form.length m_are_steps_form
theorem S_are_steps_form : FnScope N_are_steps_form ["value"] (defScope (top 27)) := C8.fnScope_by (by decide +kernel)
theorem b_are_steps_form {fa : Addr} (M : Md w K mg) (cdv : Value) (A : Around) (outer : List Env) (s : Shared) (H : Hp) (E : XK)
    (C : Ctx (cxOf (L2.CX P w) P w K mg base N_are_steps_form "are_steps_form" (defScope (top 27)) fa cdv A outer s H E) 2) (tk : Takes (cxOf (L2.CX P w) P w K mg base N_are_steps_form "are_steps_form" (defScope (top 27)) fa cdv A outer s H E) (fun c d _ H' => E c d H'))
    (hp : PassesOwn (model P w) (A.deeper (envOfC "are_steps_form" (defScope (top 27)) s.heap.objs.size fa cdv)) (envOfC "are_steps_form" (defScope (top 27)) s.heap.objs.size fa cdv) (cxOf (L2.CX P w) P w K mg base N_are_steps_form "are_steps_form" (defScope (top 27)) fa cdv A outer s H E).xe) :
    PSsD (cxOf (L2.CX P w) P w K mg base N_are_steps_form "are_steps_form" (defScope (top 27)) fa cdv A outer s H E) (fun c d _ H' => E c d H') (defBody (top 27)) m_are_steps_form := by
  have nd : N_are_steps_form.Nodup := S_are_steps_form.nd
  exact psd_one (psd_ret (ped_and (ped_isa (T := "tuple") rfl M.b_isinstance rfl M.b_tuple boot_tuple (ped_var (pe_var (i := 0) rfl (.inl rfl)))) (ped_one (ped_b1 (cald_all C.calm) rfl M.b_all boot_all (pad_cons (ped_lc (own := [("step", 1)]) C.calm nd (pid_seq (ped_var (pe_var (i := 0) rfl (.inl rfl)))) (blkOk_by (by kernel_rfl)) (fun _ _ _ _ _ => pgd_one nd rfl (.inl rfl)) (fun _ _ _ _ _ => ptsd_nil) (fun _ _ _ _ _ => ped_call (cal_is_step_form M) C.blk (by decide) takesF rfl (pad_cons (ped_var (pe_var (i := 1) rfl (.inl rfl))) (pad_nil))) (by decide)) (pad_nil))))))
theorem cal_are_steps_form (M : Md w K mg) : CalG P w K mg base 3 "are_steps_form" 1 ff_are_steps_form := by
  obtain ⟨fd, F⟩ := M.d_are_steps_form
  exact ⟨_, fd, ["value"], fnD F S_are_steps_form fun cdv A outer s H E C tk hp => b_are_steps_form M cdv A outer s H E C tk hp, M.g_are_steps_form, F.kp, FunD.bindsN F fun _ _ _ _ _ _ us hl => match us, hl with | [_], _ => rfl⟩
/-! need_steps -/
def N_need_steps : List Str := ["steps"]
def m_need_steps : FSt := sIf (tNotD (toT (eCall 1 ff_are_steps_form (aCons (eVar 0) (aNil))))) (sNever) (sNx)
def ff_need_steps : FF := fnRun N_need_steps.length m_need_steps
theorem S_need_steps : FnScope N_need_steps ["steps"] (defScope (top 28)) := C8.fnScope_by (by decide +kernel)
theorem b_need_steps {fa : Addr} (M : Md w K mg) (cdv : Value) (A : Around) (outer : List Env) (s : Shared) (H : Hp) (E : XK)
    (C : Ctx (cxOf (L2.CX P w) P w K mg base N_need_steps "need_steps" (defScope (top 28)) fa cdv A outer s H E) 3) (tk : Takes (cxOf (L2.CX P w) P w K mg base N_need_steps "need_steps" (defScope (top 28)) fa cdv A outer s H E) (fun c d _ H' => E c d H'))
    (hp : PassesOwn (model P w) (A.deeper (envOfC "need_steps" (defScope (top 28)) s.heap.objs.size fa cdv)) (envOfC "need_steps" (defScope (top 28)) s.heap.objs.size fa cdv) (cxOf (L2.CX P w) P w K mg base N_need_steps "need_steps" (defScope (top 28)) fa cdv A outer s H E).xe) :
    PSsD (cxOf (L2.CX P w) P w K mg base N_need_steps "need_steps" (defScope (top 28)) fa cdv A outer s H E) (fun c d _ H' => E c d H') (defBody (top 28)) m_need_steps := by
  have nd : N_need_steps.Nodup := S_need_steps.nd
  exact psd_one (psd_if (ptd_not (ptd_val (ped_call (cal_are_steps_form M) C (by decide) tk rfl (pad_cons (ped_var (pe_var (i := 0) rfl (.inl rfl))) (pad_nil))))) (psd_one (psd_never)) (psd_nil))
theorem cal_need_steps (M : Md w K mg) : CalG P w K mg base 4 "need_steps" 1 ff_need_steps := by
  obtain ⟨fd, F⟩ := M.d_need_steps
  exact ⟨_, fd, ["steps"], fnD F S_need_steps fun cdv A outer s H E C tk hp => b_need_steps M cdv A outer s H E C tk hp, M.g_need_steps, F.kp, FunD.bindsN F fun _ _ _ _ _ _ us hl => match us, hl with | [_], _ => rfl⟩
/-! told_again -/
def N_told_again : List Str := ["formula", "clauses", "clause"]
def m_told_again : FSt := sRet (eTup (aCons (e2 ixD (eVar 0) (eC (.int 0))) (aCons (e2 ixD (eVar 0) (eC (.int 1))) (aCons (eB1 gTuple (aCons (eSort (aCons (eDcT (iSeq (eVar 1)) (.one 2) [2] (fYes) (eVar 2) (eC (.bool true))) (aNil))) (aNil))) (aNil)))))
def ff_told_again : FF := fnRun N_told_again.length m_told_again
theorem S_told_again : FnScope N_told_again ["formula", "clauses"] (defScope (top 29)) := C8.fnScope_by (by decide +kernel)
theorem b_told_again {fa : Addr} (M : Md w K mg) (cdv : Value) (A : Around) (outer : List Env) (s : Shared) (H : Hp) (E : XK)
    (C : Ctx (cxOf (L2.CX P w) P w K mg base N_told_again "told_again" (defScope (top 29)) fa cdv A outer s H E) 0) (tk : Takes (cxOf (L2.CX P w) P w K mg base N_told_again "told_again" (defScope (top 29)) fa cdv A outer s H E) (fun c d _ H' => E c d H'))
    (hp : PassesOwn (model P w) (A.deeper (envOfC "told_again" (defScope (top 29)) s.heap.objs.size fa cdv)) (envOfC "told_again" (defScope (top 29)) s.heap.objs.size fa cdv) (cxOf (L2.CX P w) P w K mg base N_told_again "told_again" (defScope (top 29)) fa cdv A outer s H E).xe) :
    PSsD (cxOf (L2.CX P w) P w K mg base N_told_again "told_again" (defScope (top 29)) fa cdv A outer s H E) (fun c d _ H' => E c d H') (defBody (top 29)) m_told_again := by
  have nd : N_told_again.Nodup := S_told_again.nd
  exact psd_one (psd_ret (ped_tup (pad_cons (ped_get C.hu (ped_var (pe_var (i := 0) rfl (.inl rfl))) (ped_int)) (pad_cons (ped_get C.hu (ped_var (pe_var (i := 0) rfl (.inl rfl))) (ped_int)) (pad_cons (ped_t1 cald_tuple rfl M.b_tuple boot_tuple (pad_cons (ped_sort C.hu C.calm rfl M.b_sorted (pad_cons (ped_dcT (own := [("clause", 2)]) C.hu C.calm nd (pid_seq (ped_var (pe_var (i := 1) rfl (.inl rfl)))) (blkOk_by (by kernel_rfl)) (fun _ _ _ _ _ => pgd_one nd rfl (.inl rfl)) (fun _ _ _ _ _ => ptsd_nil) (fun _ _ _ _ _ => ped_var (pe_var (i := 2) rfl (.inl rfl))) (fun _ _ _ _ _ => ped_bl) (by decide)) (pad_nil))) (pad_nil))) (pad_nil))))))
theorem cal_told_again (M : Md w K mg) : CalG P w K mg base 1 "told_again" 2 ff_told_again := by
  obtain ⟨fd, F⟩ := M.d_told_again
  exact ⟨_, fd, ["formula", "clauses"], fnD F S_told_again fun cdv A outer s H E C tk hp => b_told_again M cdv A outer s H E C tk hp, M.g_told_again, F.kp, FunD.bindsN F fun _ _ _ _ _ _ us hl => match us, hl with | [_, _], _ => rfl⟩
/-! without -/
def N_without : List Str := ["clause", "literal", "item"]
def m_without : FSt := sRet (eB1 gTuple (aCons (eLc (iSeq (eVar 0)) (.one 2) [2] (toB (eBin gNe (eVar 2) (eVar 1))) (eVar 2)) (aNil)))
def ff_without : FF := fnRun N_without.length m_without
theorem S_without : FnScope N_without ["clause", "literal"] (defScope (top 30)) := C8.fnScope_by (by decide +kernel)
theorem b_without {fa : Addr} (M : Md w K mg) (cdv : Value) (A : Around) (outer : List Env) (s : Shared) (H : Hp) (E : XK)
    (C : Ctx (cxOf (L2.CX P w) P w K mg base N_without "without" (defScope (top 30)) fa cdv A outer s H E) 0) (tk : Takes (cxOf (L2.CX P w) P w K mg base N_without "without" (defScope (top 30)) fa cdv A outer s H E) (fun c d _ H' => E c d H'))
    (hp : PassesOwn (model P w) (A.deeper (envOfC "without" (defScope (top 30)) s.heap.objs.size fa cdv)) (envOfC "without" (defScope (top 30)) s.heap.objs.size fa cdv) (cxOf (L2.CX P w) P w K mg base N_without "without" (defScope (top 30)) fa cdv A outer s H E).xe) :
    PSsD (cxOf (L2.CX P w) P w K mg base N_without "without" (defScope (top 30)) fa cdv A outer s H E) (fun c d _ H' => E c d H') (defBody (top 30)) m_without := by
  have nd : N_without.Nodup := S_without.nd
  exact psd_one (psd_ret (ped_t1 cald_tuple rfl M.b_tuple boot_tuple (pad_cons (ped_lc (own := [("item", 2)]) C.calm nd (pid_seq (ped_var (pe_var (i := 0) rfl (.inl rfl)))) (blkOk_by (by kernel_rfl)) (fun _ _ _ _ _ => pgd_one nd rfl (.inl rfl)) (fun _ _ _ _ _ => ptsd_one (ptd_cmp (opd_ne C.blk.hu) (ped_var (pe_var (i := 2) rfl (.inl rfl))) (ped_var (pe_var (i := 1) rfl (.inr (.inl rfl)))))) (fun _ _ _ _ _ => ped_var (pe_var (i := 2) rfl (.inl rfl))) (by decide)) (pad_nil))))
theorem cal_without (M : Md w K mg) : CalG P w K mg base 1 "without" 2 ff_without := by
  obtain ⟨fd, F⟩ := M.d_without
  exact ⟨_, fd, ["clause", "literal"], fnD F S_without fun cdv A outer s H E C tk hp => b_without M cdv A outer s H E C tk hp, M.g_without, F.kp, FunD.bindsN F fun _ _ _ _ _ _ us hl => match us, hl with | [_, _], _ => rfl⟩
/-! held_in -/
def N_held_in : List Str := ["formula", "literal", "clause"]
def m_held_in : FSt := sRet (eCall 2 ff_told_again (aCons (eVar 0) (aCons (eLc (iSeq (e2 ixD (eVar 0) (eC (.int 2)))) (.one 2) [2] (toB (e2 (inD gNotIn true) (eVar 1) (eVar 2))) (eCall 2 ff_without (aCons (eVar 2) (aCons (eUn gNeg (eVar 1)) (aNil))))) (aNil))))
def ff_held_in : FF := fnRun N_held_in.length m_held_in
theorem S_held_in : FnScope N_held_in ["formula", "literal"] (defScope (top 31)) := C8.fnScope_by (by decide +kernel)
theorem b_held_in {fa : Addr} (M : Md w K mg) (cdv : Value) (A : Around) (outer : List Env) (s : Shared) (H : Hp) (E : XK)
    (C : Ctx (cxOf (L2.CX P w) P w K mg base N_held_in "held_in" (defScope (top 31)) fa cdv A outer s H E) 1) (tk : Takes (cxOf (L2.CX P w) P w K mg base N_held_in "held_in" (defScope (top 31)) fa cdv A outer s H E) (fun c d _ H' => E c d H'))
    (hp : PassesOwn (model P w) (A.deeper (envOfC "held_in" (defScope (top 31)) s.heap.objs.size fa cdv)) (envOfC "held_in" (defScope (top 31)) s.heap.objs.size fa cdv) (cxOf (L2.CX P w) P w K mg base N_held_in "held_in" (defScope (top 31)) fa cdv A outer s H E).xe) :
    PSsD (cxOf (L2.CX P w) P w K mg base N_held_in "held_in" (defScope (top 31)) fa cdv A outer s H E) (fun c d _ H' => E c d H') (defBody (top 31)) m_held_in := by
  have nd : N_held_in.Nodup := S_held_in.nd
  exact psd_one (psd_ret (ped_call (cal_told_again M) C (by decide) tk rfl (pad_cons (ped_var (pe_var (i := 0) rfl (.inl rfl))) (pad_cons (ped_lc (own := [("clause", 2)]) C.calm nd (pid_seq (ped_get C.hu (ped_var (pe_var (i := 0) rfl (.inl rfl))) (ped_int))) (blkOk_by (by kernel_rfl)) (fun _ _ _ _ _ => pgd_one nd rfl (.inl rfl)) (fun _ _ _ _ _ => ptsd_one (ptd_notIn C.blk.hu (ped_var (pe_var (i := 1) rfl (.inr (.inl rfl)))) (ped_var (pe_var (i := 2) rfl (.inl rfl))))) (fun _ _ _ _ _ => ped_call (cal_without M) C.blk (by decide) takesF rfl (pad_cons (ped_var (pe_var (i := 2) rfl (.inl rfl))) (pad_cons (ped_neg (ped_var (pe_var (i := 1) rfl (.inr (.inl rfl))))) (pad_nil)))) (by decide)) (pad_nil)))))
theorem cal_held_in (M : Md w K mg) : CalG P w K mg base 2 "held_in" 2 ff_held_in := by
  obtain ⟨fd, F⟩ := M.d_held_in
  exact ⟨_, fd, ["formula", "literal"], fnD F S_held_in fun cdv A outer s H E C tk hp => b_held_in M cdv A outer s H E C tk hp, M.g_held_in, F.kp, FunD.bindsN F fun _ _ _ _ _ _ us hl => match us, hl with | [_, _], _ => rfl⟩
/-! unit_done -/
def N_unit_done : List Str := ["formula", "c"]
def m_unit_done : FSt := sSeq (sIf (tOrD (toB (eBin gGe (eVar 1) (eB1 gLen (aCons (e2 ixD (eVar 0) (eC (.int 2))) (aNil))))) (tOrD (toB (eBin gNe (eB1 gLen (aCons (e2 ixD (e2 ixD (eVar 0) (eC (.int 2))) (eVar 1)) (aNil))) (eC (.int 1)))) (toB (eBin gLe (eB1 gAbs (aCons (e2 ixD (e2 ixD (e2 ixD (eVar 0) (eC (.int 2))) (eVar 1)) (eC (.int 0))) (aNil))) (e2 ixD (eVar 0) (eC (.int 0))))))) (sRet (eC .none)) (sNx)) (sRet (eCall 2 ff_held_in (aCons (eVar 0) (aCons (e2 ixD (e2 ixD (e2 ixD (eVar 0) (eC (.int 2))) (eVar 1)) (eC (.int 0))) (aNil)))))
def ff_unit_done : FF := fnRun N_unit_done.length m_unit_done
theorem S_unit_done : FnScope N_unit_done ["formula", "c"] (defScope (top 34)) := C8.fnScope_by (by decide +kernel)
theorem b_unit_done {fa : Addr} (M : Md w K mg) (cdv : Value) (A : Around) (outer : List Env) (s : Shared) (H : Hp) (E : XK)
    (C : Ctx (cxOf (L2.CX P w) P w K mg base N_unit_done "unit_done" (defScope (top 34)) fa cdv A outer s H E) 2) (tk : Takes (cxOf (L2.CX P w) P w K mg base N_unit_done "unit_done" (defScope (top 34)) fa cdv A outer s H E) (fun c d _ H' => E c d H'))
    (hp : PassesOwn (model P w) (A.deeper (envOfC "unit_done" (defScope (top 34)) s.heap.objs.size fa cdv)) (envOfC "unit_done" (defScope (top 34)) s.heap.objs.size fa cdv) (cxOf (L2.CX P w) P w K mg base N_unit_done "unit_done" (defScope (top 34)) fa cdv A outer s H E).xe) :
    PSsD (cxOf (L2.CX P w) P w K mg base N_unit_done "unit_done" (defScope (top 34)) fa cdv A outer s H E) (fun c d _ H' => E c d H') (defBody (top 34)) m_unit_done := by
  have nd : N_unit_done.Nodup := S_unit_done.nd
  exact psd_cons (psd_if (ptd_w (pwd_or (ptd_cmp (opd_ge C.hu) (ped_var (pe_var (i := 1) rfl (.inl rfl))) (ped_b1 cald_len rfl M.b_len boot_len (pad_cons (ped_get C.hu (ped_var (pe_var (i := 0) rfl (.inl rfl))) (ped_int)) (pad_nil)))) (pwd_or (ptd_cmp (opd_ne C.hu) (ped_b1 cald_len rfl M.b_len boot_len (pad_cons (ped_get C.hu (ped_get C.hu (ped_var (pe_var (i := 0) rfl (.inl rfl))) (ped_int)) (ped_var (pe_var (i := 1) rfl (.inl rfl)))) (pad_nil))) (ped_int)) (pwd_one_or (ptd_cmp (opd_le C.hu) (ped_b1 cald_abs rfl M.b_abs boot_abs (pad_cons (ped_get C.hu (ped_get C.hu (ped_get C.hu (ped_var (pe_var (i := 0) rfl (.inl rfl))) (ped_int)) (ped_var (pe_var (i := 1) rfl (.inl rfl)))) (ped_int)) (pad_nil))) (ped_get C.hu (ped_var (pe_var (i := 0) rfl (.inl rfl))) (ped_int))))))) (psd_one (psd_ret (ped_non))) (psd_nil)) (psd_one (psd_ret (ped_call (cal_held_in M) C (by decide) tk rfl (pad_cons (ped_var (pe_var (i := 0) rfl (.inl rfl))) (pad_cons (ped_get C.hu (ped_get C.hu (ped_get C.hu (ped_var (pe_var (i := 0) rfl (.inl rfl))) (ped_int)) (ped_var (pe_var (i := 1) rfl (.inl rfl)))) (ped_int)) (pad_nil))))))
theorem cal_unit_done (M : Md w K mg) : CalG P w K mg base 3 "unit_done" 2 ff_unit_done := by
  obtain ⟨fd, F⟩ := M.d_unit_done
  exact ⟨_, fd, ["formula", "c"], fnD F S_unit_done fun cdv A outer s H E C tk hp => b_unit_done M cdv A outer s H E C tk hp, M.g_unit_done, F.kp, FunD.bindsN F fun _ _ _ _ _ _ us hl => match us, hl with | [_, _], _ => rfl⟩
/-! pure_done -/
def N_pure_done : List Str := ["formula", "literal", "some", "clause"]
def m_pure_done : FSt := sSeq (sAsg (.one 2) (eLc (iSeq (e2 ixD (eVar 0) (eC (.int 2)))) (.one 3) [3] (toB (e2 (inD gIn false) (eVar 1) (eVar 3))) (eVar 3))) (sSeq (sIf (tOrD (tNotD (toT (eVar 2))) (toT (eB1 gAny (aCons (eLc (iSeq (e2 ixD (eVar 0) (eC (.int 2)))) (.one 3) [3] (fYes) (e2 (inD gIn false) (eUn gNeg (eVar 1)) (eVar 3))) (aNil))))) (sRet (eC .none)) (sNx)) (sSeq (sIf (toB (eBin gGt (eB1 gAbs (aCons (eVar 1) (aNil))) (e2 ixD (eVar 0) (eC (.int 0))))) (sRet (eCall 2 ff_told_again (aCons (eVar 0) (aCons (eLc (iSeq (e2 ixD (eVar 0) (eC (.int 2)))) (.one 3) [3] (toB (e2 (inD gNotIn true) (eVar 1) (eVar 3))) (eVar 3)) (aNil))))) (sNx)) (sRet (eCall 2 ff_told_again (aCons (eVar 0) (aCons (eLc (iSeq (e2 ixD (eVar 0) (eC (.int 2)))) (.one 3) [3] (fYes) (eCall 2 ff_without (aCons (eVar 3) (aCons (eVar 1) (aNil))))) (aNil)))))))
def ff_pure_done : FF := fnRun N_pure_done.length m_pure_done
theorem S_pure_done : FnScope N_pure_done ["formula", "literal"] (defScope (top 37)) := C8.fnScope_by (by decide +kernel)
theorem b_pure_done {fa : Addr} (M : Md w K mg) (cdv : Value) (A : Around) (outer : List Env) (s : Shared) (H : Hp) (E : XK)
    (C : Ctx (cxOf (L2.CX P w) P w K mg base N_pure_done "pure_done" (defScope (top 37)) fa cdv A outer s H E) 1) (tk : Takes (cxOf (L2.CX P w) P w K mg base N_pure_done "pure_done" (defScope (top 37)) fa cdv A outer s H E) (fun c d _ H' => E c d H'))
    (hp : PassesOwn (model P w) (A.deeper (envOfC "pure_done" (defScope (top 37)) s.heap.objs.size fa cdv)) (envOfC "pure_done" (defScope (top 37)) s.heap.objs.size fa cdv) (cxOf (L2.CX P w) P w K mg base N_pure_done "pure_done" (defScope (top 37)) fa cdv A outer s H E).xe) :
    PSsD (cxOf (L2.CX P w) P w K mg base N_pure_done "pure_done" (defScope (top 37)) fa cdv A outer s H E) (fun c d _ H' => E c d H') (defBody (top 37)) m_pure_done := by
  have nd : N_pure_done.Nodup := S_pure_done.nd
  exact psd_cons (psd_setLc (own := [("clause", 3)]) C.calm nd rfl rfl (sw_true rfl rfl rfl (by decide +kernel)) (pid_seq (ped_get C.hu (ped_var (pe_var (i := 0) rfl (.inl rfl))) (ped_int))) (blkOk_by (by kernel_rfl)) (fun _ _ _ _ _ => pgd_one nd rfl (.inl rfl)) (fun _ _ _ _ _ => ptsd_one (ptd_in C.blk.hu (ped_var (pe_var (i := 1) rfl (.inr (.inl rfl)))) (ped_var (pe_var (i := 3) rfl (.inl rfl))))) (fun _ _ _ _ _ => ped_var (pe_var (i := 3) rfl (.inl rfl))) (by decide)) (psd_cons (psd_if (ptd_w (pwd_or (ptd_not (ptd_val (ped_var (pe_var (i := 2) rfl (.inl rfl))))) (pwd_one_or (ptd_val (ped_b1 (cald_any C.calm) rfl M.b_any boot_any (pad_cons (ped_lc (own := [("clause", 3)]) C.calm nd (pid_seq (ped_get C.hu (ped_var (pe_var (i := 0) rfl (.inl rfl))) (ped_int))) (blkOk_by (by kernel_rfl)) (fun _ _ _ _ _ => pgd_one nd rfl (.inl rfl)) (fun _ _ _ _ _ => ptsd_nil) (fun _ _ _ _ _ => ped_in C.blk.hu (ped_neg (ped_var (pe_var (i := 1) rfl (.inr (.inl rfl))))) (ped_var (pe_var (i := 3) rfl (.inl rfl)))) (by decide)) (pad_nil))))))) (psd_one (psd_ret (ped_non))) (psd_nil)) (psd_cons (psd_if (ptd_cmp (opd_gt C.hu) (ped_b1 cald_abs rfl M.b_abs boot_abs (pad_cons (ped_var (pe_var (i := 1) rfl (.inr (.inl rfl)))) (pad_nil))) (ped_get C.hu (ped_var (pe_var (i := 0) rfl (.inl rfl))) (ped_int))) (psd_one (psd_ret (ped_call (cal_told_again M) C (by decide) tk rfl (pad_cons (ped_var (pe_var (i := 0) rfl (.inl rfl))) (pad_cons (ped_lc (own := [("clause", 3)]) C.calm nd (pid_seq (ped_get C.hu (ped_var (pe_var (i := 0) rfl (.inl rfl))) (ped_int))) (blkOk_by (by kernel_rfl)) (fun _ _ _ _ _ => pgd_one nd rfl (.inl rfl)) (fun _ _ _ _ _ => ptsd_one (ptd_notIn C.blk.hu (ped_var (pe_var (i := 1) rfl (.inr (.inl rfl)))) (ped_var (pe_var (i := 3) rfl (.inl rfl))))) (fun _ _ _ _ _ => ped_var (pe_var (i := 3) rfl (.inl rfl))) (by decide)) (pad_nil)))))) (psd_nil)) (psd_one (psd_ret (ped_call (cal_told_again M) C (by decide) tk rfl (pad_cons (ped_var (pe_var (i := 0) rfl (.inl rfl))) (pad_cons (ped_lc (own := [("clause", 3)]) C.calm nd (pid_seq (ped_get C.hu (ped_var (pe_var (i := 0) rfl (.inl rfl))) (ped_int))) (blkOk_by (by kernel_rfl)) (fun _ _ _ _ _ => pgd_one nd rfl (.inl rfl)) (fun _ _ _ _ _ => ptsd_nil) (fun _ _ _ _ _ => ped_call (cal_without M) C.blk (by decide) takesF rfl (pad_cons (ped_var (pe_var (i := 3) rfl (.inl rfl))) (pad_cons (ped_var (pe_var (i := 1) rfl (.inr (.inl rfl)))) (pad_nil)))) (by decide)) (pad_nil))))))))
theorem cal_pure_done (M : Md w K mg) : CalG P w K mg base 2 "pure_done" 2 ff_pure_done := by
  obtain ⟨fd, F⟩ := M.d_pure_done
  exact ⟨_, fd, ["formula", "literal"], fnD F S_pure_done fun cdv A outer s H E C tk hp => b_pure_done M cdv A outer s H E C tk hp, M.g_pure_done, F.kp, FunD.bindsN F fun _ _ _ _ _ _ us hl => match us, hl with | [_, _], _ => rfl⟩
/-! looks_at_in -/
def N_looks_at_in : List Str := ["formula", "clause", "u", "item"]
def m_looks_at_in : FSt := sRet (eB1 gAny (aCons (eLc (iSeq (eVar 1)) (.one 3) [3] (fYes) (eAnd (eBin gGt (eB1 gAbs (aCons (eVar 3) (aNil))) (e2 ixD (eVar 0) (eC (.int 0)))) (e2 (inD gIn false) (eVar 2) (e2 ixD (e2 ixD (eVar 0) (eC (.int 1))) (eBin gSub (eBin gSub (eB1 gAbs (aCons (eVar 3) (aNil))) (e2 ixD (eVar 0) (eC (.int 0)))) (eC (.int 1))))))) (aNil)))
def ff_looks_at_in : FF := fnRun N_looks_at_in.length m_looks_at_in
theorem S_looks_at_in : FnScope N_looks_at_in ["formula", "clause", "u"] (defScope (top 22)) := C8.fnScope_by (by decide +kernel)
theorem b_looks_at_in {fa : Addr} (M : Md w K mg) (cdv : Value) (A : Around) (outer : List Env) (s : Shared) (H : Hp) (E : XK)
    (C : Ctx (cxOf (L2.CX P w) P w K mg base N_looks_at_in "looks_at_in" (defScope (top 22)) fa cdv A outer s H E) 0) (tk : Takes (cxOf (L2.CX P w) P w K mg base N_looks_at_in "looks_at_in" (defScope (top 22)) fa cdv A outer s H E) (fun c d _ H' => E c d H'))
    (hp : PassesOwn (model P w) (A.deeper (envOfC "looks_at_in" (defScope (top 22)) s.heap.objs.size fa cdv)) (envOfC "looks_at_in" (defScope (top 22)) s.heap.objs.size fa cdv) (cxOf (L2.CX P w) P w K mg base N_looks_at_in "looks_at_in" (defScope (top 22)) fa cdv A outer s H E).xe) :
    PSsD (cxOf (L2.CX P w) P w K mg base N_looks_at_in "looks_at_in" (defScope (top 22)) fa cdv A outer s H E) (fun c d _ H' => E c d H') (defBody (top 22)) m_looks_at_in := by
  have nd : N_looks_at_in.Nodup := S_looks_at_in.nd
  exact psd_one (psd_ret (ped_b1 (cald_any C.calm) rfl M.b_any boot_any (pad_cons (ped_lc (own := [("item", 3)]) C.calm nd (pid_seq (ped_var (pe_var (i := 1) rfl (.inl rfl)))) (blkOk_by (by kernel_rfl)) (fun _ _ _ _ _ => pgd_one nd rfl (.inl rfl)) (fun _ _ _ _ _ => ptsd_nil) (fun _ _ _ _ _ => ped_and (ped_cmp (opd_gt C.blk.hu) (ped_b1 cald_abs rfl M.b_abs boot_abs (pad_cons (ped_var (pe_var (i := 3) rfl (.inl rfl))) (pad_nil))) (ped_get C.blk.hu (ped_var (pe_var (i := 0) rfl (.inr (.inl rfl)))) (ped_int))) (ped_one (ped_in C.blk.hu (ped_var (pe_var (i := 2) rfl (.inr (.inl rfl)))) (ped_get C.blk.hu (ped_get C.blk.hu (ped_var (pe_var (i := 0) rfl (.inr (.inl rfl)))) (ped_int)) (ped_bin opd_sub (ped_bin opd_sub (ped_b1 cald_abs rfl M.b_abs boot_abs (pad_cons (ped_var (pe_var (i := 3) rfl (.inl rfl))) (pad_nil))) (ped_get C.blk.hu (ped_var (pe_var (i := 0) rfl (.inr (.inl rfl)))) (ped_int))) (ped_int)))))) (by decide)) (pad_nil))))
theorem cal_looks_at_in (M : Md w K mg) : CalG P w K mg base 1 "looks_at_in" 3 ff_looks_at_in := by
  obtain ⟨fd, F⟩ := M.d_looks_at_in
  exact ⟨_, fd, ["formula", "clause", "u"], fnD F S_looks_at_in fun cdv A outer s H E C tk hp => b_looks_at_in M cdv A outer s H E C tk hp, M.g_looks_at_in, F.kp, FunD.bindsN F fun _ _ _ _ _ _ us hl => match us, hl with | [_, _, _], _ => rfl⟩
/-! dropped_in -/
def N_dropped_in : List Str := ["formula", "clause", "u", "left", "item"]
def m_dropped_in : FSt := sSeq (sAsg (.one 3) (eB1 gTuple (aCons (eLc (iSeq (eVar 1)) (.one 4) [4] (toB (eBin gNe (eB1 gAbs (aCons (eVar 4) (aNil))) (eVar 2))) (eVar 4)) (aNil)))) (sRet (eIf (tOrD (toB (eBin gEq (eB1 gLen (aCons (eVar 3) (aNil))) (eB1 gLen (aCons (eVar 1) (aNil))))) (toT (eCall 3 ff_looks_at_in (aCons (eVar 0) (aCons (eVar 1) (aCons (eVar 2) (aNil))))))) (eC .none) (eVar 3)))
def ff_dropped_in : FF := fnRun N_dropped_in.length m_dropped_in
theorem S_dropped_in : FnScope N_dropped_in ["formula", "clause", "u"] (defScope (top 23)) := C8.fnScope_by (by decide +kernel)
theorem b_dropped_in {fa : Addr} (M : Md w K mg) (cdv : Value) (A : Around) (outer : List Env) (s : Shared) (H : Hp) (E : XK)
    (C : Ctx (cxOf (L2.CX P w) P w K mg base N_dropped_in "dropped_in" (defScope (top 23)) fa cdv A outer s H E) 1) (tk : Takes (cxOf (L2.CX P w) P w K mg base N_dropped_in "dropped_in" (defScope (top 23)) fa cdv A outer s H E) (fun c d _ H' => E c d H'))
    (hp : PassesOwn (model P w) (A.deeper (envOfC "dropped_in" (defScope (top 23)) s.heap.objs.size fa cdv)) (envOfC "dropped_in" (defScope (top 23)) s.heap.objs.size fa cdv) (cxOf (L2.CX P w) P w K mg base N_dropped_in "dropped_in" (defScope (top 23)) fa cdv A outer s H E).xe) :
    PSsD (cxOf (L2.CX P w) P w K mg base N_dropped_in "dropped_in" (defScope (top 23)) fa cdv A outer s H E) (fun c d _ H' => E c d H') (defBody (top 23)) m_dropped_in := by
  have nd : N_dropped_in.Nodup := S_dropped_in.nd
  exact psd_cons (psd_set (i := 3) nd rfl (.inl rfl) (ped_t1 cald_tuple rfl M.b_tuple boot_tuple (pad_cons (ped_lc (own := [("item", 4)]) C.calm nd (pid_seq (ped_var (pe_var (i := 1) rfl (.inl rfl)))) (blkOk_by (by kernel_rfl)) (fun _ _ _ _ _ => pgd_one nd rfl (.inl rfl)) (fun _ _ _ _ _ => ptsd_one (ptd_cmp (opd_ne C.blk.hu) (ped_b1 cald_abs rfl M.b_abs boot_abs (pad_cons (ped_var (pe_var (i := 4) rfl (.inl rfl))) (pad_nil))) (ped_var (pe_var (i := 2) rfl (.inr (.inl rfl)))))) (fun _ _ _ _ _ => ped_var (pe_var (i := 4) rfl (.inl rfl))) (by decide)) (pad_nil)))) (psd_one (psd_ret (ped_if (ptd_w (pwd_or (ptd_cmp (opd_eq C.hu) (ped_b1 cald_len rfl M.b_len boot_len (pad_cons (ped_var (pe_var (i := 3) rfl (.inl rfl))) (pad_nil))) (ped_b1 cald_len rfl M.b_len boot_len (pad_cons (ped_var (pe_var (i := 1) rfl (.inl rfl))) (pad_nil)))) (pwd_one_or (ptd_val (ped_call (cal_looks_at_in M) C (by decide) tk rfl (pad_cons (ped_var (pe_var (i := 0) rfl (.inl rfl))) (pad_cons (ped_var (pe_var (i := 1) rfl (.inl rfl))) (pad_cons (ped_var (pe_var (i := 2) rfl (.inr (.inl rfl)))) (pad_nil))))))))) (ped_non) (ped_var (pe_var (i := 3) rfl (.inl rfl))))))
theorem cal_dropped_in (M : Md w K mg) : CalG P w K mg base 2 "dropped_in" 3 ff_dropped_in := by
  obtain ⟨fd, F⟩ := M.d_dropped_in
  exact ⟨_, fd, ["formula", "clause", "u"], fnD F S_dropped_in fun cdv A outer s H E C tk hp => b_dropped_in M cdv A outer s H E C tk hp, M.g_dropped_in, F.kp, FunD.bindsN F fun _ _ _ _ _ _ us hl => match us, hl with | [_, _, _], _ => rfl⟩
/-! drop_done -/
def N_drop_done : List Str := ["formula", "c", "u", "left"]
def m_drop_done : FSt := sSeq (sIf (tOrD (toB (eBin gGe (eVar 1) (eB1 gLen (aCons (e2 ixD (eVar 0) (eC (.int 2))) (aNil))))) (tNotD (toB (eChain gLt gLe (eC (.int 0)) (eVar 2) (e2 ixD (eVar 0) (eC (.int 0))))))) (sRet (eC .none)) (sNx)) (sSeq (sAsg (.one 3) (eCall 3 ff_dropped_in (aCons (eVar 0) (aCons (e2 ixD (e2 ixD (eVar 0) (eC (.int 2))) (eVar 1)) (aCons (eVar 2) (aNil)))))) (sRet (eIf (toB (eBin gIs (eVar 3) (eC .none))) (eC .none) (eCall 2 ff_told_again (aCons (eVar 0) (aCons (eBin gAdd (eBin gAdd (eSl (e2 ixD (eVar 0) (eC (.int 2))) (oNo) (oSome (eVar 1))) (eTup (aCons (eVar 3) (aNil)))) (eSl (e2 ixD (eVar 0) (eC (.int 2))) (oSome (eBin gAdd (eVar 1) (eC (.int 1)))) (oNo))) (aNil)))))))
def ff_drop_done : FF := fnRun N_drop_done.length m_drop_done
theorem S_drop_done : FnScope N_drop_done ["formula", "c", "u"] (defScope (top 35)) := C8.fnScope_by (by decide +kernel)
theorem b_drop_done {fa : Addr} (M : Md w K mg) (cdv : Value) (A : Around) (outer : List Env) (s : Shared) (H : Hp) (E : XK)
    (C : Ctx (cxOf (L2.CX P w) P w K mg base N_drop_done "drop_done" (defScope (top 35)) fa cdv A outer s H E) 2) (tk : Takes (cxOf (L2.CX P w) P w K mg base N_drop_done "drop_done" (defScope (top 35)) fa cdv A outer s H E) (fun c d _ H' => E c d H'))
    (hp : PassesOwn (model P w) (A.deeper (envOfC "drop_done" (defScope (top 35)) s.heap.objs.size fa cdv)) (envOfC "drop_done" (defScope (top 35)) s.heap.objs.size fa cdv) (cxOf (L2.CX P w) P w K mg base N_drop_done "drop_done" (defScope (top 35)) fa cdv A outer s H E).xe) :
    PSsD (cxOf (L2.CX P w) P w K mg base N_drop_done "drop_done" (defScope (top 35)) fa cdv A outer s H E) (fun c d _ H' => E c d H') (defBody (top 35)) m_drop_done := by
  have nd : N_drop_done.Nodup := S_drop_done.nd
  exact psd_cons (psd_if (ptd_w (pwd_or (ptd_cmp (opd_ge C.hu) (ped_var (pe_var (i := 1) rfl (.inl rfl))) (ped_b1 cald_len rfl M.b_len boot_len (pad_cons (ped_get C.hu (ped_var (pe_var (i := 0) rfl (.inl rfl))) (ped_int)) (pad_nil)))) (pwd_one_or (ptd_not (ptd_chain (opd_lt C.hu) (opd_le C.hu) (ped_int) (ped_var (pe_var (i := 2) rfl (.inl rfl))) (ped_get C.hu (ped_var (pe_var (i := 0) rfl (.inl rfl))) (ped_int))))))) (psd_one (psd_ret (ped_non))) (psd_nil)) (psd_cons (psd_set (i := 3) nd rfl (.inl rfl) (ped_call (cal_dropped_in M) C (by decide) tk rfl (pad_cons (ped_var (pe_var (i := 0) rfl (.inl rfl))) (pad_cons (ped_get C.hu (ped_get C.hu (ped_var (pe_var (i := 0) rfl (.inl rfl))) (ped_int)) (ped_var (pe_var (i := 1) rfl (.inl rfl)))) (pad_cons (ped_var (pe_var (i := 2) rfl (.inl rfl))) (pad_nil)))))) (psd_one (psd_ret (ped_if (ptd_cmp opd_is (ped_var (pe_var (i := 3) rfl (.inl rfl))) (ped_non)) (ped_non) (ped_call (cal_told_again M) C (by decide) tk rfl (pad_cons (ped_var (pe_var (i := 0) rfl (.inl rfl))) (pad_cons (ped_bin opd_add (ped_bin opd_add (ped_sl (ped_get C.hu (ped_var (pe_var (i := 0) rfl (.inl rfl))) (ped_int)) (pod_no) (pod_some (ped_var (pe_var (i := 1) rfl (.inl rfl))))) (ped_tup (pad_cons (ped_var (pe_var (i := 3) rfl (.inl rfl))) (pad_nil)))) (ped_sl (ped_get C.hu (ped_var (pe_var (i := 0) rfl (.inl rfl))) (ped_int)) (pod_some (ped_bin opd_add (ped_var (pe_var (i := 1) rfl (.inl rfl))) (ped_int))) (pod_no))) (pad_nil))))))))
theorem cal_drop_done (M : Md w K mg) : CalG P w K mg base 3 "drop_done" 3 ff_drop_done := by
  obtain ⟨fd, F⟩ := M.d_drop_done
  exact ⟨_, fd, ["formula", "c", "u"], fnD F S_drop_done fun cdv A outer s H E C tk hp => b_drop_done M cdv A outer s H E C tk hp, M.g_drop_done, F.kp, FunD.bindsN F fun _ _ _ _ _ _ us hl => match us, hl with | [_, _, _], _ => rfl⟩
/-! cover_done -/
def N_cover_done : List Str := ["formula", "c", "d", "many", "item"]
def m_cover_done : FSt := sSeq (sAsg (.one 3) (eB1 gLen (aCons (e2 ixD (eVar 0) (eC (.int 2))) (aNil)))) (sSeq (sIf (tOrD (toB (eBin gGe (eVar 1) (eVar 3))) (tOrD (toB (eBin gGe (eVar 2) (eVar 3))) (tOrD (toB (eBin gEq (eVar 1) (eVar 2))) (tNotD (toT (eB1 gAll (aCons (eLc (iSeq (e2 ixD (e2 ixD (eVar 0) (eC (.int 2))) (eVar 1))) (.one 4) [4] (fYes) (e2 (inD gIn false) (eVar 4) (e2 ixD (e2 ixD (eVar 0) (eC (.int 2))) (eVar 2)))) (aNil)))))))) (sRet (eC .none)) (sNx)) (sRet (eCall 2 ff_told_again (aCons (eVar 0) (aCons (eBin gAdd (eSl (e2 ixD (eVar 0) (eC (.int 2))) (oNo) (oSome (eVar 2))) (eSl (e2 ixD (eVar 0) (eC (.int 2))) (oSome (eBin gAdd (eVar 2) (eC (.int 1)))) (oNo))) (aNil))))))
def ff_cover_done : FF := fnRun N_cover_done.length m_cover_done
theorem S_cover_done : FnScope N_cover_done ["formula", "c", "d"] (defScope (top 36)) := C8.fnScope_by (by decide +kernel)
theorem b_cover_done {fa : Addr} (M : Md w K mg) (cdv : Value) (A : Around) (outer : List Env) (s : Shared) (H : Hp) (E : XK)
    (C : Ctx (cxOf (L2.CX P w) P w K mg base N_cover_done "cover_done" (defScope (top 36)) fa cdv A outer s H E) 1) (tk : Takes (cxOf (L2.CX P w) P w K mg base N_cover_done "cover_done" (defScope (top 36)) fa cdv A outer s H E) (fun c d _ H' => E c d H'))
    (hp : PassesOwn (model P w) (A.deeper (envOfC "cover_done" (defScope (top 36)) s.heap.objs.size fa cdv)) (envOfC "cover_done" (defScope (top 36)) s.heap.objs.size fa cdv) (cxOf (L2.CX P w) P w K mg base N_cover_done "cover_done" (defScope (top 36)) fa cdv A outer s H E).xe) :
    PSsD (cxOf (L2.CX P w) P w K mg base N_cover_done "cover_done" (defScope (top 36)) fa cdv A outer s H E) (fun c d _ H' => E c d H') (defBody (top 36)) m_cover_done := by
  have nd : N_cover_done.Nodup := S_cover_done.nd
  exact psd_cons (psd_set (i := 3) nd rfl (.inl rfl) (ped_b1 cald_len rfl M.b_len boot_len (pad_cons (ped_get C.hu (ped_var (pe_var (i := 0) rfl (.inr (.inl rfl)))) (ped_int)) (pad_nil)))) (psd_cons (psd_if (ptd_w (pwd_or (ptd_cmp (opd_ge C.hu) (ped_var (pe_var (i := 1) rfl (.inl rfl))) (ped_var (pe_var (i := 3) rfl (.inl rfl)))) (pwd_or (ptd_cmp (opd_ge C.hu) (ped_var (pe_var (i := 2) rfl (.inr (.inl rfl)))) (ped_var (pe_var (i := 3) rfl (.inl rfl)))) (pwd_or (ptd_cmp (opd_eq C.hu) (ped_var (pe_var (i := 1) rfl (.inl rfl))) (ped_var (pe_var (i := 2) rfl (.inr (.inl rfl))))) (pwd_one_or (ptd_not (ptd_val (ped_b1 (cald_all C.calm) rfl M.b_all boot_all (pad_cons (ped_lc (own := [("item", 4)]) C.calm nd (pid_seq (ped_get C.hu (ped_get C.hu (ped_var (pe_var (i := 0) rfl (.inr (.inl rfl)))) (ped_int)) (ped_var (pe_var (i := 1) rfl (.inl rfl))))) (blkOk_by (by kernel_rfl)) (fun _ _ _ _ _ => pgd_one nd rfl (.inl rfl)) (fun _ _ _ _ _ => ptsd_nil) (fun _ _ _ _ _ => ped_in C.blk.hu (ped_var (pe_var (i := 4) rfl (.inl rfl))) (ped_get C.blk.hu (ped_get C.blk.hu (ped_var (pe_var (i := 0) rfl (.inr (.inl rfl)))) (ped_int)) (ped_var (pe_var (i := 2) rfl (.inr (.inl rfl)))))) (by decide)) (pad_nil)))))))))) (psd_one (psd_ret (ped_non))) (psd_nil)) (psd_one (psd_ret (ped_call (cal_told_again M) C (by decide) tk rfl (pad_cons (ped_var (pe_var (i := 0) rfl (.inr (.inl rfl)))) (pad_cons (ped_bin opd_add (ped_sl (ped_get C.hu (ped_var (pe_var (i := 0) rfl (.inr (.inl rfl)))) (ped_int)) (pod_no) (pod_some (ped_var (pe_var (i := 2) rfl (.inr (.inl rfl)))))) (ped_sl (ped_get C.hu (ped_var (pe_var (i := 0) rfl (.inr (.inl rfl)))) (ped_int)) (pod_some (ped_bin opd_add (ped_var (pe_var (i := 2) rfl (.inr (.inl rfl)))) (ped_int))) (pod_no))) (pad_nil)))))))
theorem cal_cover_done (M : Md w K mg) : CalG P w K mg base 2 "cover_done" 3 ff_cover_done := by
  obtain ⟨fd, F⟩ := M.d_cover_done
  exact ⟨_, fd, ["formula", "c", "d"], fnD F S_cover_done fun cdv A outer s H E C tk hp => b_cover_done M cdv A outer s H E C tk hp, M.g_cover_done, F.kp, FunD.bindsN F fun _ _ _ _ _ _ us hl => match us, hl with | [_, _, _], _ => rfl⟩
/-! look_in -/
def N_look_in : List Str := ["formula", "e"]
def m_look_in : FSt := sRet (e2 ixD (e2 ixD (eVar 0) (eC (.int 1))) (eBin gSub (eBin gSub (eVar 1) (e2 ixD (eVar 0) (eC (.int 0)))) (eC (.int 1))))
def ff_look_in : FF := fnRun N_look_in.length m_look_in
theorem S_look_in : FnScope N_look_in ["formula", "e"] (defScope (top 20)) := C8.fnScope_by (by decide +kernel)
theorem b_look_in {fa : Addr} (M : Md w K mg) (cdv : Value) (A : Around) (outer : List Env) (s : Shared) (H : Hp) (E : XK)
    (C : Ctx (cxOf (L2.CX P w) P w K mg base N_look_in "look_in" (defScope (top 20)) fa cdv A outer s H E) 0) (tk : Takes (cxOf (L2.CX P w) P w K mg base N_look_in "look_in" (defScope (top 20)) fa cdv A outer s H E) (fun c d _ H' => E c d H'))
    (hp : PassesOwn (model P w) (A.deeper (envOfC "look_in" (defScope (top 20)) s.heap.objs.size fa cdv)) (envOfC "look_in" (defScope (top 20)) s.heap.objs.size fa cdv) (cxOf (L2.CX P w) P w K mg base N_look_in "look_in" (defScope (top 20)) fa cdv A outer s H E).xe) :
    PSsD (cxOf (L2.CX P w) P w K mg base N_look_in "look_in" (defScope (top 20)) fa cdv A outer s H E) (fun c d _ H' => E c d H') (defBody (top 20)) m_look_in := by
  have nd : N_look_in.Nodup := S_look_in.nd
  exact psd_one (psd_ret (ped_get C.hu (ped_get C.hu (ped_var (pe_var (i := 0) rfl (.inl rfl))) (ped_int)) (ped_bin opd_sub (ped_bin opd_sub (ped_var (pe_var (i := 1) rfl (.inl rfl))) (ped_get C.hu (ped_var (pe_var (i := 0) rfl (.inl rfl))) (ped_int))) (ped_int))))
theorem cal_look_in (M : Md w K mg) : CalG P w K mg base 1 "look_in" 2 ff_look_in := by
  obtain ⟨fd, F⟩ := M.d_look_in
  exact ⟨_, fd, ["formula", "e"], fnD F S_look_in fun cdv A outer s H E C tk hp => b_look_in M cdv A outer s H E C tk hp, M.g_look_in, F.kp, FunD.bindsN F fun _ _ _ _ _ _ us hl => match us, hl with | [_, _], _ => rfl⟩
/-! can_see -/
def N_can_see : List Str := ["formula", "e", "bit", "look", "u"]
def m_can_see : FSt := sSeq (sAsg (.one 3) (eCall 2 ff_look_in (aCons (eVar 0) (aCons (eVar 1) (aNil))))) (sRet (eIf (toB (eBin gLe (eVar 2) (e2 ixD (eVar 0) (eC (.int 0))))) (e2 (inD gIn false) (eVar 2) (eVar 3)) (eAnd (eBin gNe (eVar 2) (eVar 1)) (eB1 gAll (aCons (eLc (iSeq (eCall 2 ff_look_in (aCons (eVar 0) (aCons (eVar 2) (aNil))))) (.one 4) [4] (fYes) (e2 (inD gIn false) (eVar 4) (eVar 3))) (aNil))))))
def ff_can_see : FF := fnRun N_can_see.length m_can_see
theorem S_can_see : FnScope N_can_see ["formula", "e", "bit"] (defScope (top 32)) := C8.fnScope_by (by decide +kernel)
theorem b_can_see {fa : Addr} (M : Md w K mg) (cdv : Value) (A : Around) (outer : List Env) (s : Shared) (H : Hp) (E : XK)
    (C : Ctx (cxOf (L2.CX P w) P w K mg base N_can_see "can_see" (defScope (top 32)) fa cdv A outer s H E) 1) (tk : Takes (cxOf (L2.CX P w) P w K mg base N_can_see "can_see" (defScope (top 32)) fa cdv A outer s H E) (fun c d _ H' => E c d H'))
    (hp : PassesOwn (model P w) (A.deeper (envOfC "can_see" (defScope (top 32)) s.heap.objs.size fa cdv)) (envOfC "can_see" (defScope (top 32)) s.heap.objs.size fa cdv) (cxOf (L2.CX P w) P w K mg base N_can_see "can_see" (defScope (top 32)) fa cdv A outer s H E).xe) :
    PSsD (cxOf (L2.CX P w) P w K mg base N_can_see "can_see" (defScope (top 32)) fa cdv A outer s H E) (fun c d _ H' => E c d H') (defBody (top 32)) m_can_see := by
  have nd : N_can_see.Nodup := S_can_see.nd
  exact psd_cons (psd_set (i := 3) nd rfl (.inr rfl) (ped_call (cal_look_in M) C (by decide) tk rfl (pad_cons (ped_var (pe_var (i := 0) rfl (.inl rfl))) (pad_cons (ped_var (pe_var (i := 1) rfl (.inl rfl))) (pad_nil))))) (psd_one (psd_ret (ped_if (ptd_cmp (opd_le C.hu) (ped_var (pe_var (i := 2) rfl (.inl rfl))) (ped_get C.hu (ped_var (pe_var (i := 0) rfl (.inl rfl))) (ped_int))) (ped_in C.hu (ped_var (pe_var (i := 2) rfl (.inl rfl))) (ped_var (pe_var (i := 3) rfl (.inr (.inl rfl))))) (ped_and (ped_cmp (opd_ne C.hu) (ped_var (pe_var (i := 2) rfl (.inl rfl))) (ped_var (pe_var (i := 1) rfl (.inl rfl)))) (ped_one (ped_b1 (cald_all C.calm) rfl M.b_all boot_all (pad_cons (ped_lc (own := [("u", 4)]) C.calm nd (pid_seq (ped_call (cal_look_in M) C (by decide) tk rfl (pad_cons (ped_var (pe_var (i := 0) rfl (.inl rfl))) (pad_cons (ped_var (pe_var (i := 2) rfl (.inl rfl))) (pad_nil))))) (blkOk_by (by kernel_rfl)) (fun _ _ _ _ _ => pgd_one nd rfl (.inl rfl)) (fun _ _ _ _ _ => ptsd_nil) (fun _ _ _ _ _ => ped_in C.blk.hu (ped_var (pe_var (i := 4) rfl (.inl rfl))) (ped_var (pe_var (i := 3) rfl (.inr (.inl rfl))))) (by decide)) (pad_nil))))))))
theorem cal_can_see (M : Md w K mg) : CalG P w K mg base 2 "can_see" 3 ff_can_see := by
  obtain ⟨fd, F⟩ := M.d_can_see
  exact ⟨_, fd, ["formula", "e", "bit"], fnD F S_can_see fun cdv A outer s H E C tk hp => b_can_see M cdv A outer s H E C tk hp, M.g_can_see, F.kp, FunD.bindsN F fun _ _ _ _ _ _ us hl => match us, hl with | [_, _, _], _ => rfl⟩
/-! seen_others -/
def N_seen_others : List Str := ["formula", "clause", "literal", "item"]
def m_seen_others : FSt := sRet (eLc (iSeq (eVar 1)) (.one 3) [3] (tAndD (toB (eBin gNe (eVar 3) (eVar 2))) (toT (eCall 3 ff_can_see (aCons (eVar 0) (aCons (eB1 gAbs (aCons (eVar 2) (aNil))) (aCons (eB1 gAbs (aCons (eVar 3) (aNil))) (aNil))))))) (eVar 3))
def ff_seen_others : FF := fnRun N_seen_others.length m_seen_others
theorem S_seen_others : FnScope N_seen_others ["formula", "clause", "literal"] (defScope (top 38)) := C8.fnScope_by (by decide +kernel)
theorem b_seen_others {fa : Addr} (M : Md w K mg) (cdv : Value) (A : Around) (outer : List Env) (s : Shared) (H : Hp) (E : XK)
    (C : Ctx (cxOf (L2.CX P w) P w K mg base N_seen_others "seen_others" (defScope (top 38)) fa cdv A outer s H E) 2) (tk : Takes (cxOf (L2.CX P w) P w K mg base N_seen_others "seen_others" (defScope (top 38)) fa cdv A outer s H E) (fun c d _ H' => E c d H'))
    (hp : PassesOwn (model P w) (A.deeper (envOfC "seen_others" (defScope (top 38)) s.heap.objs.size fa cdv)) (envOfC "seen_others" (defScope (top 38)) s.heap.objs.size fa cdv) (cxOf (L2.CX P w) P w K mg base N_seen_others "seen_others" (defScope (top 38)) fa cdv A outer s H E).xe) :
    PSsD (cxOf (L2.CX P w) P w K mg base N_seen_others "seen_others" (defScope (top 38)) fa cdv A outer s H E) (fun c d _ H' => E c d H') (defBody (top 38)) m_seen_others := by
  have nd : N_seen_others.Nodup := S_seen_others.nd
  exact psd_one (psd_ret (ped_lc (own := [("item", 3)]) C.calm nd (pid_seq (ped_var (pe_var (i := 1) rfl (.inl rfl)))) (blkOk_by (by kernel_rfl)) (fun _ _ _ _ _ => pgd_one nd rfl (.inl rfl)) (fun _ _ _ _ _ => ptsd_one (ptd_w (pwd_and (ptd_cmp (opd_ne C.blk.hu) (ped_var (pe_var (i := 3) rfl (.inl rfl))) (ped_var (pe_var (i := 2) rfl (.inr (.inl rfl))))) (pwd_one_and (ptd_val (ped_call (cal_can_see M) C.blk (by decide) takesF rfl (pad_cons (ped_var (pe_var (i := 0) rfl (.inr (.inl rfl)))) (pad_cons (ped_b1 cald_abs rfl M.b_abs boot_abs (pad_cons (ped_var (pe_var (i := 2) rfl (.inr (.inl rfl)))) (pad_nil))) (pad_cons (ped_b1 cald_abs rfl M.b_abs boot_abs (pad_cons (ped_var (pe_var (i := 3) rfl (.inl rfl))) (pad_nil))) (pad_nil)))))))))) (fun _ _ _ _ _ => ped_var (pe_var (i := 3) rfl (.inl rfl))) (by decide)))
theorem cal_seen_others (M : Md w K mg) : CalG P w K mg base 3 "seen_others" 3 ff_seen_others := by
  obtain ⟨fd, F⟩ := M.d_seen_others
  exact ⟨_, fd, ["formula", "clause", "literal"], fnD F S_seen_others fun cdv A outer s H E C tk hp => b_seen_others M cdv A outer s H E C tk hp, M.g_seen_others, F.kp, FunD.bindsN F fun _ _ _ _ _ _ us hl => match us, hl with | [_, _, _], _ => rfl⟩
/-! block_done -/
def N_block_done : List Str := ["formula", "c", "literal", "others", "clause", "item"]
def m_block_done : FSt := sSeq (sIf (tOrD (toB (eBin gGe (eVar 1) (eB1 gLen (aCons (e2 ixD (eVar 0) (eC (.int 2))) (aNil))))) (tOrD (toB (e2 (inD gNotIn true) (eVar 2) (e2 ixD (e2 ixD (eVar 0) (eC (.int 2))) (eVar 1)))) (toB (eBin gLe (eB1 gAbs (aCons (eVar 2) (aNil))) (e2 ixD (eVar 0) (eC (.int 0))))))) (sRet (eC .none)) (sNx)) (sSeq (sAsg (.one 3) (eCall 3 ff_seen_others (aCons (eVar 0) (aCons (e2 ixD (e2 ixD (eVar 0) (eC (.int 2))) (eVar 1)) (aCons (eVar 2) (aNil)))))) (sSeq (sFor (iSeq (e2 ixD (eVar 0) (eC (.int 2)))) (.one 4) (sIf (tAndD (toB (e2 (inD gIn false) (eUn gNeg (eVar 2)) (eVar 4))) (tNotD (toT (eB1 gAny (aCons (eLc (iSeq (eVar 3)) (.one 5) [5] (fYes) (e2 (inD gIn false) (eUn gNeg (eVar 5)) (eVar 4))) (aNil)))))) (sRet (eC .none)) (sNx))) (sRet (eCall 2 ff_told_again (aCons (eVar 0) (aCons (eBin gAdd (eSl (e2 ixD (eVar 0) (eC (.int 2))) (oNo) (oSome (eVar 1))) (eSl (e2 ixD (eVar 0) (eC (.int 2))) (oSome (eBin gAdd (eVar 1) (eC (.int 1)))) (oNo))) (aNil)))))))
def ff_block_done : FF := fnRun N_block_done.length m_block_done
theorem S_block_done : FnScope N_block_done ["formula", "c", "literal"] (defScope (top 39)) := C8.fnScope_by (by decide +kernel)
theorem b_block_done {fa : Addr} (M : Md w K mg) (cdv : Value) (A : Around) (outer : List Env) (s : Shared) (H : Hp) (E : XK)
    (C : Ctx (cxOf (L2.CX P w) P w K mg base N_block_done "block_done" (defScope (top 39)) fa cdv A outer s H E) 3) (tk : Takes (cxOf (L2.CX P w) P w K mg base N_block_done "block_done" (defScope (top 39)) fa cdv A outer s H E) (fun c d _ H' => E c d H'))
    (hp : PassesOwn (model P w) (A.deeper (envOfC "block_done" (defScope (top 39)) s.heap.objs.size fa cdv)) (envOfC "block_done" (defScope (top 39)) s.heap.objs.size fa cdv) (cxOf (L2.CX P w) P w K mg base N_block_done "block_done" (defScope (top 39)) fa cdv A outer s H E).xe) :
    PSsD (cxOf (L2.CX P w) P w K mg base N_block_done "block_done" (defScope (top 39)) fa cdv A outer s H E) (fun c d _ H' => E c d H') (defBody (top 39)) m_block_done := by
  have nd : N_block_done.Nodup := S_block_done.nd
  exact psd_cons (psd_if (ptd_w (pwd_or (ptd_cmp (opd_ge C.hu) (ped_var (pe_var (i := 1) rfl (.inl rfl))) (ped_b1 cald_len rfl M.b_len boot_len (pad_cons (ped_get C.hu (ped_var (pe_var (i := 0) rfl (.inl rfl))) (ped_int)) (pad_nil)))) (pwd_or (ptd_notIn C.hu (ped_var (pe_var (i := 2) rfl (.inl rfl))) (ped_get C.hu (ped_get C.hu (ped_var (pe_var (i := 0) rfl (.inl rfl))) (ped_int)) (ped_var (pe_var (i := 1) rfl (.inl rfl))))) (pwd_one_or (ptd_cmp (opd_le C.hu) (ped_b1 cald_abs rfl M.b_abs boot_abs (pad_cons (ped_var (pe_var (i := 2) rfl (.inl rfl))) (pad_nil))) (ped_get C.hu (ped_var (pe_var (i := 0) rfl (.inl rfl))) (ped_int))))))) (psd_one (psd_ret (ped_non))) (psd_nil)) (psd_cons (psd_set (i := 3) nd rfl (.inl rfl) (ped_call (cal_seen_others M) C (by decide) tk rfl (pad_cons (ped_var (pe_var (i := 0) rfl (.inl rfl))) (pad_cons (ped_get C.hu (ped_get C.hu (ped_var (pe_var (i := 0) rfl (.inl rfl))) (ped_int)) (ped_var (pe_var (i := 1) rfl (.inl rfl)))) (pad_cons (ped_var (pe_var (i := 2) rfl (.inl rfl))) (pad_nil)))))) (psd_cons (psd_for hp C.calm (pid_seq (ped_get C.hu (ped_var (pe_var (i := 0) rfl (.inl rfl))) (ped_int))) (pgd_one nd rfl (.inr rfl)) (psd_one (psd_if (ptd_w (pwd_and (ptd_in C.hu (ped_neg (ped_var (pe_var (i := 2) rfl (.inl rfl)))) (ped_var (pe_var (i := 4) rfl (.inr (.inl rfl))))) (pwd_one_and (ptd_not (ptd_val (ped_b1 (cald_any C.calm) rfl M.b_any boot_any (pad_cons (ped_lc (own := [("item", 5)]) C.calm nd (pid_seq (ped_var (pe_var (i := 3) rfl (.inl rfl)))) (blkOk_by (by kernel_rfl)) (fun _ _ _ _ _ => pgd_one nd rfl (.inl rfl)) (fun _ _ _ _ _ => ptsd_nil) (fun _ _ _ _ _ => ped_in C.blk.hu (ped_neg (ped_var (pe_var (i := 5) rfl (.inl rfl)))) (ped_var (pe_var (i := 4) rfl (.inr (.inl rfl))))) (by decide)) (pad_nil)))))))) (psd_one (psd_ret (ped_non))) (psd_nil)))) (psd_one (psd_ret (ped_call (cal_told_again M) C (by decide) tk rfl (pad_cons (ped_var (pe_var (i := 0) rfl (.inl rfl))) (pad_cons (ped_bin opd_add (ped_sl (ped_get C.hu (ped_var (pe_var (i := 0) rfl (.inl rfl))) (ped_int)) (pod_no) (pod_some (ped_var (pe_var (i := 1) rfl (.inl rfl))))) (ped_sl (ped_get C.hu (ped_var (pe_var (i := 0) rfl (.inl rfl))) (ped_int)) (pod_some (ped_bin opd_add (ped_var (pe_var (i := 1) rfl (.inl rfl))) (ped_int))) (pod_no))) (pad_nil))))))))
theorem cal_block_done (M : Md w K mg) : CalG P w K mg base 4 "block_done" 3 ff_block_done := by
  obtain ⟨fd, F⟩ := M.d_block_done
  exact ⟨_, fd, ["formula", "c", "literal"], fnD F S_block_done fun cdv A outer s H E C tk hp => b_block_done M cdv A outer s H E C tk hp, M.g_block_done, F.kp, FunD.bindsN F fun _ _ _ _ _ _ us hl => match us, hl with | [_, _, _], _ => rfl⟩
/-! ring_in -/
def N_ring_in : List Str := ["formula", "e", "u", "found", "todo", "at", "clause", "bits", "bit", "item"]
def m_ring_in : FSt := sSeq (sPar 3 4 (aCons (eDisp [(eVar 1, eC (.bool true))]) (aCons (eLstL (aCons (eVar 1) (aNil))) (aNil)))) (sSeq (whileD (toT (eVar 4)) (sSeq (sAsg (.one 5) (ePop (eVar 4))) (sFor (iSeq (e2 ixD (eVar 0) (eC (.int 2)))) (.one 6) (sSeq (sAsg (.one 7) (eLc (iSeq (eVar 6)) (.one 9) [9] (fYes) (eB1 gAbs (aCons (eVar 9) (aNil))))) (sFor (iSeq (eIf (toB (e2 (inD gIn false) (eVar 5) (eVar 7))) (eVar 7) (eLst (aNil)))) (.one 8) (sIf (tAndD (toB (eBin gGt (eVar 8) (e2 ixD (eVar 0) (eC (.int 0))))) (tAndD (toB (e2 (inD gNotIn true) (eVar 8) (eVar 3))) (toB (e2 (inD gIn false) (eVar 2) (eCall 2 ff_look_in (aCons (eVar 0) (aCons (eVar 8) (aNil)))))))) (sSeq (sDSet (eVar 3) (eVar 8) (eC (.bool true))) (sExpr (eMeth (eVar 4) (aCons (eVar 8) (aNil)) mApp))) (sNx)))))) 64) (sRet (eVar 3)))
def ff_ring_in : FF := fnRun N_ring_in.length m_ring_in
theorem S_ring_in : FnScope N_ring_in ["formula", "e", "u"] (defScope (top 33)) := C8.fnScope_by (by decide +kernel)
theorem b_ring_in {fa : Addr} (M : Md w K mg) (cdv : Value) (A : Around) (outer : List Env) (s : Shared) (H : Hp) (E : XK)
    (C : Ctx (cxOf (L2.CX P w) P w K mg base N_ring_in "ring_in" (defScope (top 33)) fa cdv A outer s H E) 1) (tk : Takes (cxOf (L2.CX P w) P w K mg base N_ring_in "ring_in" (defScope (top 33)) fa cdv A outer s H E) (fun c d _ H' => E c d H'))
    (hp : PassesOwn (model P w) (A.deeper (envOfC "ring_in" (defScope (top 33)) s.heap.objs.size fa cdv)) (envOfC "ring_in" (defScope (top 33)) s.heap.objs.size fa cdv) (cxOf (L2.CX P w) P w K mg base N_ring_in "ring_in" (defScope (top 33)) fa cdv A outer s H E).xe) :
    PSsD (cxOf (L2.CX P w) P w K mg base N_ring_in "ring_in" (defScope (top 33)) fa cdv A outer s H E) (fun c d _ H' => E c d H') (defBody (top 33)) m_ring_in := by
  have nd : N_ring_in.Nodup := S_ring_in.nd
  exact psd_cons (psd_par (i := 3) (j := 4) C.calm nd rfl rfl (by decide) rfl rfl (pad_cons (ped_disp (ppsd_cons (ped_var (pe_var (i := 1) rfl (.inl rfl))) (ped_bl) (ppsd_nil)) (fun z => nomatch z) (by decide)) (pad_cons (ped_lstL (pad_cons (ped_var (pe_var (i := 1) rfl (.inl rfl))) (pad_nil))) (pad_nil))) (by rfl)) (psd_cons (psd_while 64 hp (ptd_val (ped_var (pe_var (i := 4) rfl (.inl rfl)))) (psd_cons (psd_set (i := 5) nd rfl (.inl rfl) (ped_pop (ped_var (pe_var (i := 4) rfl (.inl rfl))))) (psd_one (psd_for hp C.calm (pid_seq (ped_get C.hu (ped_var (pe_var (i := 0) rfl (.inl rfl))) (ped_int))) (pgd_one nd rfl (.inl rfl)) (psd_cons (psd_setLc (own := [("item", 9)]) C.calm nd rfl rfl (sw_true rfl rfl rfl (by decide +kernel)) (pid_seq (ped_var (pe_var (i := 6) rfl (.inl rfl)))) (blkOk_by (by kernel_rfl)) (fun _ _ _ _ _ => pgd_one nd rfl (.inl rfl)) (fun _ _ _ _ _ => ptsd_nil) (fun _ _ _ _ _ => ped_b1 cald_abs rfl M.b_abs boot_abs (pad_cons (ped_var (pe_var (i := 9) rfl (.inl rfl))) (pad_nil))) (by decide)) (psd_one (psd_for hp C.calm (pid_seq (ped_if (ptd_in C.hu (ped_var (pe_var (i := 5) rfl (.inl rfl))) (ped_var (pe_var (i := 7) rfl (.inl rfl)))) (ped_var (pe_var (i := 7) rfl (.inl rfl))) (ped_lst (pad_nil)))) (pgd_one nd rfl (.inl rfl)) (psd_one (psd_if (ptd_w (pwd_and (ptd_cmp (opd_gt C.hu) (ped_var (pe_var (i := 8) rfl (.inl rfl))) (ped_get C.hu (ped_var (pe_var (i := 0) rfl (.inl rfl))) (ped_int))) (pwd_and (ptd_notIn C.hu (ped_var (pe_var (i := 8) rfl (.inl rfl))) (ped_var (pe_var (i := 3) rfl (.inl rfl)))) (pwd_one_and (ptd_in C.hu (ped_var (pe_var (i := 2) rfl (.inl rfl))) (ped_call (cal_look_in M) C (by decide) tk rfl (pad_cons (ped_var (pe_var (i := 0) rfl (.inl rfl))) (pad_cons (ped_var (pe_var (i := 8) rfl (.inl rfl))) (pad_nil))))))))) (psd_cons (psd_dset C.hu (ped_var (pe_var (i := 3) rfl (.inl rfl))) (ped_var (pe_var (i := 8) rfl (.inl rfl))) (ped_bl)) (psd_one (psd_expr (ped_append (ped_var (pe_var (i := 4) rfl (.inl rfl))) (pad_cons (ped_var (pe_var (i := 8) rfl (.inl rfl))) (pad_nil)))))) (psd_nil)))))))))) (psd_one (psd_ret (ped_var (pe_var (i := 3) rfl (.inl rfl))))))
theorem cal_ring_in (M : Md w K mg) : CalG P w K mg base 2 "ring_in" 3 ff_ring_in := by
  obtain ⟨fd, F⟩ := M.d_ring_in
  exact ⟨_, fd, ["formula", "e", "u"], fnD F S_ring_in fun cdv A outer s H E C tk hp => b_ring_in M cdv A outer s H E C tk hp, M.g_ring_in, F.kp, FunD.bindsN F fun _ _ _ _ _ _ us hl => match us, hl with | [_, _, _], _ => rfl⟩
/-! bits_in -/
def N_bits_in : List Str := ["formula"]
def m_bits_in : FSt := sRet (eBin gAdd (e2 ixD (eVar 0) (eC (.int 0))) (eB1 gLen (aCons (e2 ixD (eVar 0) (eC (.int 1))) (aNil))))
def ff_bits_in : FF := fnRun N_bits_in.length m_bits_in
theorem S_bits_in : FnScope N_bits_in ["formula"] (defScope (top 19)) := C8.fnScope_by (by decide +kernel)
theorem b_bits_in {fa : Addr} (M : Md w K mg) (cdv : Value) (A : Around) (outer : List Env) (s : Shared) (H : Hp) (E : XK)
    (C : Ctx (cxOf (L2.CX P w) P w K mg base N_bits_in "bits_in" (defScope (top 19)) fa cdv A outer s H E) 0) (tk : Takes (cxOf (L2.CX P w) P w K mg base N_bits_in "bits_in" (defScope (top 19)) fa cdv A outer s H E) (fun c d _ H' => E c d H'))
    (hp : PassesOwn (model P w) (A.deeper (envOfC "bits_in" (defScope (top 19)) s.heap.objs.size fa cdv)) (envOfC "bits_in" (defScope (top 19)) s.heap.objs.size fa cdv) (cxOf (L2.CX P w) P w K mg base N_bits_in "bits_in" (defScope (top 19)) fa cdv A outer s H E).xe) :
    PSsD (cxOf (L2.CX P w) P w K mg base N_bits_in "bits_in" (defScope (top 19)) fa cdv A outer s H E) (fun c d _ H' => E c d H') (defBody (top 19)) m_bits_in := by
  have nd : N_bits_in.Nodup := S_bits_in.nd
  exact psd_one (psd_ret (ped_bin opd_add (ped_get C.hu (ped_var (pe_var (i := 0) rfl (.inl rfl))) (ped_int)) (ped_b1 cald_len rfl M.b_len boot_len (pad_cons (ped_get C.hu (ped_var (pe_var (i := 0) rfl (.inl rfl))) (ped_int)) (pad_nil)))))
theorem cal_bits_in (M : Md w K mg) : CalG P w K mg base 1 "bits_in" 1 ff_bits_in := by
  obtain ⟨fd, F⟩ := M.d_bits_in
  exact ⟨_, fd, ["formula"], fnD F S_bits_in fun cdv A outer s H E C tk hp => b_bits_in M cdv A outer s H E C tk hp, M.g_bits_in, F.kp, FunD.bindsN F fun _ _ _ _ _ _ us hl => match us, hl with | [_], _ => rfl⟩
/-! see_done -/
def N_see_done : List Str := ["formula", "e", "u", "a", "looks", "clauses", "ring", "clause", "bits", "fresh", "item", "other", "bit"]
def m_see_done : FSt := sSeq (sAsg (.tup [3, 4, 5]) (eVar 0)) (sSeq (sIf (tOrD (tNotD (toB (eChain gLt gLe (eVar 3) (eVar 1) (eCall 1 ff_bits_in (aCons (eVar 0) (aNil)))))) (toB (e2 (inD gNotIn true) (eVar 2) (eCall 2 ff_look_in (aCons (eVar 0) (aCons (eVar 1) (aNil))))))) (sRet (eC .none)) (sNx)) (sSeq (sAsg (.one 6) (eCall 3 ff_ring_in (aCons (eVar 0) (aCons (eVar 1) (aCons (eVar 2) (aNil)))))) (sSeq (sFor (iSeq (eVar 5)) (.one 7) (sSeq (sAsg (.one 8) (eLc (iSeq (eVar 7)) (.one 10) [10] (fYes) (eB1 gAbs (aCons (eVar 10) (aNil))))) (sIf (tAndD (toB (e2 (inD gIn false) (eVar 2) (eVar 8))) (toT (eB1 gAny (aCons (eLc (iSeq (eVar 8)) (.one 12) [12] (fYes) (e2 (inD gIn false) (eVar 12) (eVar 6))) (aNil))))) (sRet (eC .none)) (sNx)))) (sSeq (sAsg (.one 9) (eB1 gTuple (aCons (eLc (iSeq (eCall 2 ff_look_in (aCons (eVar 0) (aCons (eVar 1) (aNil))))) (.one 11) [11] (toB (eBin gNe (eVar 11) (eVar 2))) (eVar 11)) (aNil)))) (sRet (eTup (aCons (eVar 3) (aCons (eBin gAdd (eBin gAdd (eSl (eVar 4) (oNo) (oSome (eBin gSub (eBin gSub (eVar 1) (eVar 3)) (eC (.int 1))))) (eTup (aCons (eVar 9) (aNil)))) (eSl (eVar 4) (oSome (eBin gSub (eVar 1) (eVar 3))) (oNo))) (aCons (eVar 5) (aNil))))))))))
def ff_see_done : FF := fnRun N_see_done.length m_see_done
theorem S_see_done : FnScope N_see_done ["formula", "e", "u"] (defScope (top 40)) := C8.fnScope_by (by decide +kernel)
theorem b_see_done {fa : Addr} (M : Md w K mg) (cdv : Value) (A : Around) (outer : List Env) (s : Shared) (H : Hp) (E : XK)
    (C : Ctx (cxOf (L2.CX P w) P w K mg base N_see_done "see_done" (defScope (top 40)) fa cdv A outer s H E) 2) (tk : Takes (cxOf (L2.CX P w) P w K mg base N_see_done "see_done" (defScope (top 40)) fa cdv A outer s H E) (fun c d _ H' => E c d H'))
    (hp : PassesOwn (model P w) (A.deeper (envOfC "see_done" (defScope (top 40)) s.heap.objs.size fa cdv)) (envOfC "see_done" (defScope (top 40)) s.heap.objs.size fa cdv) (cxOf (L2.CX P w) P w K mg base N_see_done "see_done" (defScope (top 40)) fa cdv A outer s H E).xe) :
    PSsD (cxOf (L2.CX P w) P w K mg base N_see_done "see_done" (defScope (top 40)) fa cdv A outer s H E) (fun c d _ H' => E c d H') (defBody (top 40)) m_see_done := by
  have nd : N_see_done.Nodup := S_see_done.nd
  exact psd_cons (psd_asg (ped_var (pe_var (i := 0) rfl (.inl rfl))) (pgd_tup C.calm (pgds_cons (i := 3) nd rfl (.inl rfl) (pgds_cons (i := 4) nd rfl (.inl rfl) (pgds_cons (i := 5) nd rfl (.inl rfl) (pgds_nil)))))) (psd_cons (psd_if (ptd_w (pwd_or (ptd_not (ptd_chain (opd_lt C.hu) (opd_le C.hu) (ped_var (pe_var (i := 3) rfl (.inl rfl))) (ped_var (pe_var (i := 1) rfl (.inl rfl))) (ped_call (cal_bits_in M) C (by decide) tk rfl (pad_cons (ped_var (pe_var (i := 0) rfl (.inl rfl))) (pad_nil))))) (pwd_one_or (ptd_notIn C.hu (ped_var (pe_var (i := 2) rfl (.inr (.inl rfl)))) (ped_call (cal_look_in M) C (by decide) tk rfl (pad_cons (ped_var (pe_var (i := 0) rfl (.inl rfl))) (pad_cons (ped_var (pe_var (i := 1) rfl (.inl rfl))) (pad_nil)))))))) (psd_one (psd_ret (ped_non))) (psd_nil)) (psd_cons (psd_set (i := 6) nd rfl (.inr rfl) (ped_call (cal_ring_in M) C (by decide) tk rfl (pad_cons (ped_var (pe_var (i := 0) rfl (.inl rfl))) (pad_cons (ped_var (pe_var (i := 1) rfl (.inl rfl))) (pad_cons (ped_var (pe_var (i := 2) rfl (.inr (.inl rfl)))) (pad_nil)))))) (psd_cons (psd_for hp C.calm (pid_seq (ped_var (pe_var (i := 5) rfl (.inl rfl)))) (pgd_one nd rfl (.inl rfl)) (psd_cons (psd_setLc (own := [("item", 10)]) C.calm nd rfl rfl (sw_true rfl rfl rfl (by decide +kernel)) (pid_seq (ped_var (pe_var (i := 7) rfl (.inl rfl)))) (blkOk_by (by kernel_rfl)) (fun _ _ _ _ _ => pgd_one nd rfl (.inl rfl)) (fun _ _ _ _ _ => ptsd_nil) (fun _ _ _ _ _ => ped_b1 cald_abs rfl M.b_abs boot_abs (pad_cons (ped_var (pe_var (i := 10) rfl (.inl rfl))) (pad_nil))) (by decide)) (psd_one (psd_if (ptd_w (pwd_and (ptd_in C.hu (ped_var (pe_var (i := 2) rfl (.inr (.inl rfl)))) (ped_var (pe_var (i := 8) rfl (.inl rfl)))) (pwd_one_and (ptd_val (ped_b1 (cald_any C.calm) rfl M.b_any boot_any (pad_cons (ped_lc (own := [("bit", 12)]) C.calm nd (pid_seq (ped_var (pe_var (i := 8) rfl (.inl rfl)))) (blkOk_by (by kernel_rfl)) (fun _ _ _ _ _ => pgd_one nd rfl (.inl rfl)) (fun _ _ _ _ _ => ptsd_nil) (fun _ _ _ _ _ => ped_in C.blk.hu (ped_var (pe_var (i := 12) rfl (.inl rfl))) (ped_var (pe_var (i := 6) rfl (.inr (.inl rfl))))) (by decide)) (pad_nil))))))) (psd_one (psd_ret (ped_non))) (psd_nil))))) (psd_cons (psd_set (i := 9) nd rfl (.inl rfl) (ped_t1 cald_tuple rfl M.b_tuple boot_tuple (pad_cons (ped_lc (own := [("other", 11)]) C.calm nd (pid_seq (ped_call (cal_look_in M) C (by decide) tk rfl (pad_cons (ped_var (pe_var (i := 0) rfl (.inl rfl))) (pad_cons (ped_var (pe_var (i := 1) rfl (.inl rfl))) (pad_nil))))) (blkOk_by (by kernel_rfl)) (fun _ _ _ _ _ => pgd_one nd rfl (.inl rfl)) (fun _ _ _ _ _ => ptsd_one (ptd_cmp (opd_ne C.blk.hu) (ped_var (pe_var (i := 11) rfl (.inl rfl))) (ped_var (pe_var (i := 2) rfl (.inr (.inl rfl)))))) (fun _ _ _ _ _ => ped_var (pe_var (i := 11) rfl (.inl rfl))) (by decide)) (pad_nil)))) (psd_one (psd_ret (ped_tup (pad_cons (ped_var (pe_var (i := 3) rfl (.inl rfl))) (pad_cons (ped_bin opd_add (ped_bin opd_add (ped_sl (ped_var (pe_var (i := 4) rfl (.inl rfl))) (pod_no) (pod_some (ped_bin opd_sub (ped_bin opd_sub (ped_var (pe_var (i := 1) rfl (.inl rfl))) (ped_var (pe_var (i := 3) rfl (.inl rfl)))) (ped_int)))) (ped_tup (pad_cons (ped_var (pe_var (i := 9) rfl (.inl rfl))) (pad_nil)))) (ped_sl (ped_var (pe_var (i := 4) rfl (.inl rfl))) (pod_some (ped_bin opd_sub (ped_var (pe_var (i := 1) rfl (.inl rfl))) (ped_var (pe_var (i := 3) rfl (.inl rfl))))) (pod_no))) (pad_cons (ped_var (pe_var (i := 5) rfl (.inl rfl))) (pad_nil)))))))))))
theorem cal_see_done (M : Md w K mg) : CalG P w K mg base 3 "see_done" 3 ff_see_done := by
  obtain ⟨fd, F⟩ := M.d_see_done
  exact ⟨_, fd, ["formula", "e", "u"], fnD F S_see_done fun cdv A outer s H E C tk hp => b_see_done M cdv A outer s H E C tk hp, M.g_see_done, F.kp, FunD.bindsN F fun _ _ _ _ _ _ us hl => match us, hl with | [_, _, _], _ => rfl⟩
def ct_ONES : CalT := [("unit_done", 2, ff_unit_done), ("pure_done", 2, ff_pure_done)]
theorem ct_ONES_ok (M : Md w K mg) : ∀ q ∈ ct_ONES, CalG P w K mg base 3 q.1 q.2.1 q.2.2 := by
  intro q hq
  simp only [ct_ONES, List.mem_cons, List.not_mem_nil, or_false] at hq
  rcases hq with rfl | rfl
  · exact (cal_unit_done M).mono (by decide)
  · exact (cal_pure_done M).mono (by decide)
theorem ct_ONES_ga (M : Md w K mg) : ∀ q ∈ ct_ONES, ∀ fa, mg q.1 = some (.ref fa) → fa = He.ga K q.1 := by
  intro q hq fa e
  simp only [ct_ONES, List.mem_cons, List.not_mem_nil, or_false] at hq
  rcases hq with rfl | rfl
  · rw [show mg "unit_done" = _ from M.g_unit_done] at e; cases e; rfl
  · rw [show mg "pure_done" = _ from M.g_pure_done] at e; cases e; rfl
def ct_TWOS : CalT := [("drop_done", 3, ff_drop_done), ("cover_done", 3, ff_cover_done), ("block_done", 3, ff_block_done), ("see_done", 3, ff_see_done)]
theorem ct_TWOS_ok (M : Md w K mg) : ∀ q ∈ ct_TWOS, CalG P w K mg base 4 q.1 q.2.1 q.2.2 := by
  intro q hq
  simp only [ct_TWOS, List.mem_cons, List.not_mem_nil, or_false] at hq
  rcases hq with rfl | rfl | rfl | rfl
  · exact (cal_drop_done M).mono (by decide)
  · exact (cal_cover_done M).mono (by decide)
  · exact (cal_block_done M).mono (by decide)
  · exact (cal_see_done M).mono (by decide)
theorem ct_TWOS_ga (M : Md w K mg) : ∀ q ∈ ct_TWOS, ∀ fa, mg q.1 = some (.ref fa) → fa = He.ga K q.1 := by
  intro q hq fa e
  simp only [ct_TWOS, List.mem_cons, List.not_mem_nil, or_false] at hq
  rcases hq with rfl | rfl | rfl | rfl
  · rw [show mg "drop_done" = _ from M.g_drop_done] at e; cases e; rfl
  · rw [show mg "cover_done" = _ from M.g_cover_done] at e; cases e; rfl
  · rw [show mg "block_done" = _ from M.g_block_done] at e; cases e; rfl
  · rw [show mg "see_done" = _ from M.g_see_done] at e; cases e; rfl
/-! step_done -/
def N_step_done : List Str := ["formula", "step"]
def m_step_done : FSt := sSeq (sIf (toB (eTabIn tb_ONES false (e2 ixD (eVar 1) (eC (.int 0))))) (sRet (eCallT ct_ONES (eTab tb_ONES (e2 ixD (eVar 1) (eC (.int 0)))) (aCons (eVar 0) (aCons (e2 ixD (eVar 1) (eC (.int 1))) (aNil))))) (sNx)) (sRet (eCallT ct_TWOS (eTab tb_TWOS (e2 ixD (eVar 1) (eC (.int 0)))) (aCons (eVar 0) (aCons (e2 ixD (eVar 1) (eC (.int 1))) (aCons (e2 ixD (eVar 1) (eC (.int 2))) (aNil))))))
def ff_step_done : FF := fnRun N_step_done.length m_step_done
theorem S_step_done : FnScope N_step_done ["formula", "step"] (defScope (top 43)) := C8.fnScope_by (by decide +kernel)
theorem b_step_done {fa : Addr} (M : Md w K mg) (cdv : Value) (A : Around) (outer : List Env) (s : Shared) (H : Hp) (E : XK)
    (C : Ctx (cxOf (L2.CX P w) P w K mg base N_step_done "step_done" (defScope (top 43)) fa cdv A outer s H E) 4) (tk : Takes (cxOf (L2.CX P w) P w K mg base N_step_done "step_done" (defScope (top 43)) fa cdv A outer s H E) (fun c d _ H' => E c d H'))
    (hp : PassesOwn (model P w) (A.deeper (envOfC "step_done" (defScope (top 43)) s.heap.objs.size fa cdv)) (envOfC "step_done" (defScope (top 43)) s.heap.objs.size fa cdv) (cxOf (L2.CX P w) P w K mg base N_step_done "step_done" (defScope (top 43)) fa cdv A outer s H E).xe) :
    PSsD (cxOf (L2.CX P w) P w K mg base N_step_done "step_done" (defScope (top 43)) fa cdv A outer s H E) (fun c d _ H' => E c d H') (defBody (top 43)) m_step_done := by
  have nd : N_step_done.Nodup := S_step_done.nd
  exact psd_cons (psd_if (ptd_tabIn M.t_ONES rfl (ped_get C.hu (ped_var (pe_var (i := 1) rfl (.inl rfl))) (ped_int))) (psd_one (psd_ret (ped_callT (tb := ct_ONES) (k := 3) (ct_ONES_ok M) (ct_ONES_ga M) C (by decide) tk (ped_tab M.t_ONES rfl (ped_get C.hu (ped_var (pe_var (i := 1) rfl (.inl rfl))) (ped_int))) (pad_cons (ped_var (pe_var (i := 0) rfl (.inl rfl))) (pad_cons (ped_get C.hu (ped_var (pe_var (i := 1) rfl (.inl rfl))) (ped_int)) (pad_nil)))))) (psd_nil)) (psd_one (psd_ret (ped_callT (tb := ct_TWOS) (k := 4) (ct_TWOS_ok M) (ct_TWOS_ga M) C (by decide) tk (ped_tab M.t_TWOS rfl (ped_get C.hu (ped_var (pe_var (i := 1) rfl (.inl rfl))) (ped_int))) (pad_cons (ped_var (pe_var (i := 0) rfl (.inl rfl))) (pad_cons (ped_get C.hu (ped_var (pe_var (i := 1) rfl (.inl rfl))) (ped_int)) (pad_cons (ped_get C.hu (ped_var (pe_var (i := 1) rfl (.inl rfl))) (ped_int)) (pad_nil)))))))
theorem cal_step_done (M : Md w K mg) : CalG P w K mg base 5 "step_done" 2 ff_step_done := by
  obtain ⟨fd, F⟩ := M.d_step_done
  exact ⟨_, fd, ["formula", "step"], fnD F S_step_done fun cdv A outer s H E C tk hp => b_step_done M cdv A outer s H E C tk hp, M.g_step_done, F.kp, FunD.bindsN F fun _ _ _ _ _ _ us hl => match us, hl with | [_, _], _ => rfl⟩
/-! ways_in -/
def N_ways_in : List Str := ["formula", "steps", "found", "step", "more"]
def m_ways_in : FSt := sSeq (sAsg (.one 2) (eLstL (aCons (eVar 0) (aNil)))) (sSeq (sFor (iSeq (eVar 1)) (.one 3) (sSeq (sAsg (.one 4) (eCall 2 ff_step_done (aCons (e2 ixD (eVar 2) (eUn gNeg (eC (.int 1)))) (aCons (eVar 3) (aNil))))) (sSeq (sIf (toB (eBin gIs (eVar 4) (eC .none))) (sRet (eVar 2)) (sNx)) (sExpr (eMeth (eVar 2) (aCons (eVar 4) (aNil)) mApp))))) (sRet (eVar 2)))
def ff_ways_in : FF := fnRun N_ways_in.length m_ways_in
theorem S_ways_in : FnScope N_ways_in ["formula", "steps"] (defScope (top 44)) := C8.fnScope_by (by decide +kernel)
theorem b_ways_in {fa : Addr} (M : Md w K mg) (cdv : Value) (A : Around) (outer : List Env) (s : Shared) (H : Hp) (E : XK)
    (C : Ctx (cxOf (L2.CX P w) P w K mg base N_ways_in "ways_in" (defScope (top 44)) fa cdv A outer s H E) 5) (tk : Takes (cxOf (L2.CX P w) P w K mg base N_ways_in "ways_in" (defScope (top 44)) fa cdv A outer s H E) (fun c d _ H' => E c d H'))
    (hp : PassesOwn (model P w) (A.deeper (envOfC "ways_in" (defScope (top 44)) s.heap.objs.size fa cdv)) (envOfC "ways_in" (defScope (top 44)) s.heap.objs.size fa cdv) (cxOf (L2.CX P w) P w K mg base N_ways_in "ways_in" (defScope (top 44)) fa cdv A outer s H E).xe) :
    PSsD (cxOf (L2.CX P w) P w K mg base N_ways_in "ways_in" (defScope (top 44)) fa cdv A outer s H E) (fun c d _ H' => E c d H') (defBody (top 44)) m_ways_in := by
  have nd : N_ways_in.Nodup := S_ways_in.nd
  exact psd_cons (psd_set (i := 2) nd rfl (.inl rfl) (ped_lstL (pad_cons (ped_var (pe_var (i := 0) rfl (.inl rfl))) (pad_nil)))) (psd_cons (psd_for hp C.calm (pid_seq (ped_var (pe_var (i := 1) rfl (.inl rfl)))) (pgd_one nd rfl (.inl rfl)) (psd_cons (psd_set (i := 4) nd rfl (.inl rfl) (ped_call (cal_step_done M) C (by decide) tk rfl (pad_cons (ped_get C.hu (ped_var (pe_var (i := 2) rfl (.inl rfl))) (ped_neg (ped_int))) (pad_cons (ped_var (pe_var (i := 3) rfl (.inl rfl))) (pad_nil))))) (psd_cons (psd_if (ptd_cmp opd_is (ped_var (pe_var (i := 4) rfl (.inl rfl))) (ped_non)) (psd_one (psd_ret (ped_var (pe_var (i := 2) rfl (.inl rfl))))) (psd_nil)) (psd_one (psd_expr (ped_append (ped_var (pe_var (i := 2) rfl (.inl rfl))) (pad_cons (ped_var (pe_var (i := 4) rfl (.inl rfl))) (pad_nil)))))))) (psd_one (psd_ret (ped_var (pe_var (i := 2) rfl (.inl rfl))))))
theorem cal_ways_in (M : Md w K mg) : CalG P w K mg base 6 "ways_in" 2 ff_ways_in := by
  obtain ⟨fd, F⟩ := M.d_ways_in
  exact ⟨_, fd, ["formula", "steps"], fnD F S_ways_in fun cdv A outer s H E C tk hp => b_ways_in M cdv A outer s H E C tk hp, M.g_ways_in, F.kp, FunD.bindsN F fun _ _ _ _ _ _ us hl => match us, hl with | [_, _], _ => rfl⟩
/-! need_ways -/
def N_need_ways : List Str := ["formula", "steps", "found"]
def m_need_ways : FSt := sSeq (sExpr (eCall 1 ff_need_formula (aCons (eVar 0) (aNil)))) (sSeq (sExpr (eCall 1 ff_need_steps (aCons (eVar 1) (aNil)))) (sSeq (sAsg (.one 2) (eCall 2 ff_ways_in (aCons (eVar 0) (aCons (eVar 1) (aNil))))) (sSeq (sIf (toB (eBin gLe (eB1 gLen (aCons (eVar 2) (aNil))) (eB1 gLen (aCons (eVar 1) (aNil))))) (sNever) (sNx)) (sRet (eVar 2)))))
def ff_need_ways : FF := fnRun N_need_ways.length m_need_ways
theorem S_need_ways : FnScope N_need_ways ["formula", "steps"] (defScope (top 47)) := C8.fnScope_by (by decide +kernel)
theorem b_need_ways {fa : Addr} (M : Md w K mg) (cdv : Value) (A : Around) (outer : List Env) (s : Shared) (H : Hp) (E : XK)
    (C : Ctx (cxOf (L2.CX P w) P w K mg base N_need_ways "need_ways" (defScope (top 47)) fa cdv A outer s H E) 6) (tk : Takes (cxOf (L2.CX P w) P w K mg base N_need_ways "need_ways" (defScope (top 47)) fa cdv A outer s H E) (fun c d _ H' => E c d H'))
    (hp : PassesOwn (model P w) (A.deeper (envOfC "need_ways" (defScope (top 47)) s.heap.objs.size fa cdv)) (envOfC "need_ways" (defScope (top 47)) s.heap.objs.size fa cdv) (cxOf (L2.CX P w) P w K mg base N_need_ways "need_ways" (defScope (top 47)) fa cdv A outer s H E).xe) :
    PSsD (cxOf (L2.CX P w) P w K mg base N_need_ways "need_ways" (defScope (top 47)) fa cdv A outer s H E) (fun c d _ H' => E c d H') (defBody (top 47)) m_need_ways := by
  have nd : N_need_ways.Nodup := S_need_ways.nd
  exact psd_cons (psd_expr (ped_call (cal_need_formula M) C (by decide) tk rfl (pad_cons (ped_var (pe_var (i := 0) rfl (.inl rfl))) (pad_nil)))) (psd_cons (psd_expr (ped_call (cal_need_steps M) C (by decide) tk rfl (pad_cons (ped_var (pe_var (i := 1) rfl (.inl rfl))) (pad_nil)))) (psd_cons (psd_set (i := 2) nd rfl (.inl rfl) (ped_call (cal_ways_in M) C (by decide) tk rfl (pad_cons (ped_var (pe_var (i := 0) rfl (.inl rfl))) (pad_cons (ped_var (pe_var (i := 1) rfl (.inl rfl))) (pad_nil))))) (psd_cons (psd_if (ptd_cmp (opd_le C.hu) (ped_b1 cald_len rfl M.b_len boot_len (pad_cons (ped_var (pe_var (i := 2) rfl (.inl rfl))) (pad_nil))) (ped_b1 cald_len rfl M.b_len boot_len (pad_cons (ped_var (pe_var (i := 1) rfl (.inl rfl))) (pad_nil)))) (psd_one (psd_never)) (psd_nil)) (psd_one (psd_ret (ped_var (pe_var (i := 2) rfl (.inl rfl))))))))
theorem cal_need_ways (M : Md w K mg) : CalG P w K mg base 7 "need_ways" 2 ff_need_ways := by
  obtain ⟨fd, F⟩ := M.d_need_ways
  exact ⟨_, fd, ["formula", "steps"], fnD F S_need_ways fun cdv A outer s H E C tk hp => b_need_ways M cdv A outer s H E C tk hp, M.g_need_ways, F.kp, FunD.bindsN F fun _ _ _ _ _ _ us hl => match us, hl with | [_, _], _ => rfl⟩
/-! steps_done -/
def N_steps_done : List Str := ["formula", "steps"]
def m_steps_done : FSt := sRet (e2 ixD (eCall 2 ff_need_ways (aCons (eVar 0) (aCons (eVar 1) (aNil)))) (eUn gNeg (eC (.int 1))))
def ff_steps_done : FF := fnRun N_steps_done.length m_steps_done
theorem S_steps_done : FnScope N_steps_done ["formula", "steps"] (defScope (top 48)) := C8.fnScope_by (by decide +kernel)
theorem b_steps_done {fa : Addr} (M : Md w K mg) (cdv : Value) (A : Around) (outer : List Env) (s : Shared) (H : Hp) (E : XK)
    (C : Ctx (cxOf (L2.CX P w) P w K mg base N_steps_done "steps_done" (defScope (top 48)) fa cdv A outer s H E) 7) (tk : Takes (cxOf (L2.CX P w) P w K mg base N_steps_done "steps_done" (defScope (top 48)) fa cdv A outer s H E) (fun c d _ H' => E c d H'))
    (hp : PassesOwn (model P w) (A.deeper (envOfC "steps_done" (defScope (top 48)) s.heap.objs.size fa cdv)) (envOfC "steps_done" (defScope (top 48)) s.heap.objs.size fa cdv) (cxOf (L2.CX P w) P w K mg base N_steps_done "steps_done" (defScope (top 48)) fa cdv A outer s H E).xe) :
    PSsD (cxOf (L2.CX P w) P w K mg base N_steps_done "steps_done" (defScope (top 48)) fa cdv A outer s H E) (fun c d _ H' => E c d H') (defBody (top 48)) m_steps_done := by
  have nd : N_steps_done.Nodup := S_steps_done.nd
  exact psd_one (psd_ret (ped_get C.hu (ped_call (cal_need_ways M) C (by decide) tk rfl (pad_cons (ped_var (pe_var (i := 0) rfl (.inl rfl))) (pad_cons (ped_var (pe_var (i := 1) rfl (.inl rfl))) (pad_nil)))) (ped_neg (ped_int))))
theorem cal_steps_done (M : Md w K mg) : CalG P w K mg base 8 "steps_done" 2 ff_steps_done := by
  obtain ⟨fd, F⟩ := M.d_steps_done
  exact ⟨_, fd, ["formula", "steps"], fnD F S_steps_done fun cdv A outer s H E C tk hp => b_steps_done M cdv A outer s H E C tk hp, M.g_steps_done, F.kp, FunD.bindsN F fun _ _ _ _ _ _ us hl => match us, hl with | [_, _], _ => rfl⟩
/-! bar_in -/
def N_bar_in : List Str := ["formula", "steps", "many"]
def m_bar_in : FSt := sSeq (sAsg (.one 2) (eBin gSub (eB1 gLen (aCons (eCall 2 ff_ways_in (aCons (eVar 0) (aCons (eVar 1) (aNil)))) (aNil))) (eC (.int 1)))) (sRet (eIf (toB (eBin gEq (eVar 2) (eB1 gLen (aCons (eVar 1) (aNil))))) (eC .none) (eVar 2)))
def ff_bar_in : FF := fnRun N_bar_in.length m_bar_in
theorem S_bar_in : FnScope N_bar_in ["formula", "steps"] (defScope (top 45)) := C8.fnScope_by (by decide +kernel)
theorem b_bar_in {fa : Addr} (M : Md w K mg) (cdv : Value) (A : Around) (outer : List Env) (s : Shared) (H : Hp) (E : XK)
    (C : Ctx (cxOf (L2.CX P w) P w K mg base N_bar_in "bar_in" (defScope (top 45)) fa cdv A outer s H E) 6) (tk : Takes (cxOf (L2.CX P w) P w K mg base N_bar_in "bar_in" (defScope (top 45)) fa cdv A outer s H E) (fun c d _ H' => E c d H'))
    (hp : PassesOwn (model P w) (A.deeper (envOfC "bar_in" (defScope (top 45)) s.heap.objs.size fa cdv)) (envOfC "bar_in" (defScope (top 45)) s.heap.objs.size fa cdv) (cxOf (L2.CX P w) P w K mg base N_bar_in "bar_in" (defScope (top 45)) fa cdv A outer s H E).xe) :
    PSsD (cxOf (L2.CX P w) P w K mg base N_bar_in "bar_in" (defScope (top 45)) fa cdv A outer s H E) (fun c d _ H' => E c d H') (defBody (top 45)) m_bar_in := by
  have nd : N_bar_in.Nodup := S_bar_in.nd
  exact psd_cons (psd_set (i := 2) nd rfl (.inl rfl) (ped_bin opd_sub (ped_b1 cald_len rfl M.b_len boot_len (pad_cons (ped_call (cal_ways_in M) C (by decide) tk rfl (pad_cons (ped_var (pe_var (i := 0) rfl (.inl rfl))) (pad_cons (ped_var (pe_var (i := 1) rfl (.inl rfl))) (pad_nil)))) (pad_nil))) (ped_int))) (psd_one (psd_ret (ped_if (ptd_cmp (opd_eq C.hu) (ped_var (pe_var (i := 2) rfl (.inl rfl))) (ped_b1 cald_len rfl M.b_len boot_len (pad_cons (ped_var (pe_var (i := 1) rfl (.inl rfl))) (pad_nil)))) (ped_non) (ped_var (pe_var (i := 2) rfl (.inl rfl))))))
theorem cal_bar_in (M : Md w K mg) : CalG P w K mg base 7 "bar_in" 2 ff_bar_in := by
  obtain ⟨fd, F⟩ := M.d_bar_in
  exact ⟨_, fd, ["formula", "steps"], fnD F S_bar_in fun cdv A outer s H E C tk hp => b_bar_in M cdv A outer s H E C tk hp, M.g_bar_in, F.kp, FunD.bindsN F fun _ _ _ _ _ _ us hl => match us, hl with | [_, _], _ => rfl⟩
/-! step_bar -/
def N_step_bar : List Str := ["formula", "steps"]
def m_step_bar : FSt := sSeq (sExpr (eCall 1 ff_need_formula (aCons (eVar 0) (aNil)))) (sSeq (sExpr (eCall 1 ff_need_steps (aCons (eVar 1) (aNil)))) (sRet (eCall 2 ff_bar_in (aCons (eVar 0) (aCons (eVar 1) (aNil))))))
def ff_step_bar : FF := fnRun N_step_bar.length m_step_bar
theorem S_step_bar : FnScope N_step_bar ["formula", "steps"] (defScope (top 46)) := C8.fnScope_by (by decide +kernel)
theorem b_step_bar {fa : Addr} (M : Md w K mg) (cdv : Value) (A : Around) (outer : List Env) (s : Shared) (H : Hp) (E : XK)
    (C : Ctx (cxOf (L2.CX P w) P w K mg base N_step_bar "step_bar" (defScope (top 46)) fa cdv A outer s H E) 7) (tk : Takes (cxOf (L2.CX P w) P w K mg base N_step_bar "step_bar" (defScope (top 46)) fa cdv A outer s H E) (fun c d _ H' => E c d H'))
    (hp : PassesOwn (model P w) (A.deeper (envOfC "step_bar" (defScope (top 46)) s.heap.objs.size fa cdv)) (envOfC "step_bar" (defScope (top 46)) s.heap.objs.size fa cdv) (cxOf (L2.CX P w) P w K mg base N_step_bar "step_bar" (defScope (top 46)) fa cdv A outer s H E).xe) :
    PSsD (cxOf (L2.CX P w) P w K mg base N_step_bar "step_bar" (defScope (top 46)) fa cdv A outer s H E) (fun c d _ H' => E c d H') (defBody (top 46)) m_step_bar := by
  have nd : N_step_bar.Nodup := S_step_bar.nd
  exact psd_cons (psd_expr (ped_call (cal_need_formula M) C (by decide) tk rfl (pad_cons (ped_var (pe_var (i := 0) rfl (.inl rfl))) (pad_nil)))) (psd_cons (psd_expr (ped_call (cal_need_steps M) C (by decide) tk rfl (pad_cons (ped_var (pe_var (i := 1) rfl (.inl rfl))) (pad_nil)))) (psd_one (psd_ret (ped_call (cal_bar_in M) C (by decide) tk rfl (pad_cons (ped_var (pe_var (i := 0) rfl (.inl rfl))) (pad_cons (ped_var (pe_var (i := 1) rfl (.inl rfl))) (pad_nil)))))))
theorem cal_step_bar (M : Md w K mg) : CalG P w K mg base 8 "step_bar" 2 ff_step_bar := by
  obtain ⟨fd, F⟩ := M.d_step_bar
  exact ⟨_, fd, ["formula", "steps"], fnD F S_step_bar fun cdv A outer s H E C tk hp => b_step_bar M cdv A outer s H E C tk hp, M.g_step_bar, F.kp, FunD.bindsN F fun _ _ _ _ _ _ us hl => match us, hl with | [_, _], _ => rfl⟩
/-! forms_in -/
def N_forms_in : List Str := ["formula", "a", "many", "bits", "found", "c", "u", "d", "bit", "sign", "e", "item"]
def m_forms_in : FSt := sSeq (sAsg (.tup [1, 2, 3]) (eTup (aCons (e2 ixD (eVar 0) (eC (.int 0))) (aCons (eB1 gLen (aCons (e2 ixD (eVar 0) (eC (.int 2))) (aNil))) (aCons (eRg2 (eC (.int 1)) (eBin gAdd (eCall 1 ff_bits_in (aCons (eVar 0) (aNil))) (eC (.int 1)))) (aNil)))))) (sSeq (sAsg (.one 4) (eLcL (iRng1 (aCons (eVar 2) (aNil))) (.one 5) [5] (fYes) (eTup (aCons (eC (.str "unit")) (aCons (eVar 5) (aNil)))))) (sSeq (sExpr (eMeth (eVar 4) (aCons (eLc2 (iRng1 (aCons (eVar 2) (aNil))) (.one 5) [5, 6] (fYes) (iRng2 (aCons (eC (.int 1)) (aCons (eBin gAdd (eVar 1) (eC (.int 1))) (aNil)))) (.one 6) [6] (fYes) (eTup (aCons (eC (.str "drop")) (aCons (eVar 5) (aCons (eVar 6) (aNil)))))) (aNil)) mExt)) (sSeq (sExpr (eMeth (eVar 4) (aCons (eLc2 (iRng1 (aCons (eVar 2) (aNil))) (.one 5) [5, 7] (fYes) (iRng1 (aCons (eVar 2) (aNil))) (.one 7) [7] (fYes) (eTup (aCons (eC (.str "cover")) (aCons (eVar 5) (aCons (eVar 7) (aNil)))))) (aNil)) mExt)) (sSeq (sExpr (eMeth (eVar 4) (aCons (eLc2 (iSeq (eVar 3)) (.one 8) [8, 9] (fYes) (iSeq (eTup (aCons (eUn gNeg (eC (.int 1))) (aCons (eC (.int 1)) (aNil))))) (.one 9) [9] (fYes) (eTup (aCons (eC (.str "pure")) (aCons (eBin gMul (eVar 9) (eVar 8)) (aNil))))) (aNil)) mExt)) (sSeq (sExpr (eMeth (eVar 4) (aCons (eLc2 (iRng2 (aCons (eBin gAdd (eVar 1) (eC (.int 1))) (aCons (eBin gAdd (eCall 1 ff_bits_in (aCons (eVar 0) (aNil))) (eC (.int 1))) (aNil)))) (.one 10) [10, 6] (fYes) (iSeq (eCall 2 ff_look_in (aCons (eVar 0) (aCons (eVar 10) (aNil))))) (.one 6) [6] (fYes) (eTup (aCons (eC (.str "see")) (aCons (eVar 10) (aCons (eVar 6) (aNil)))))) (aNil)) mExt)) (sSeq (sExpr (eMeth (eVar 4) (aCons (eLc2 (iRng1 (aCons (eVar 2) (aNil))) (.one 5) [5, 11] (fYes) (iSeq (e2 ixD (e2 ixD (eVar 0) (eC (.int 2))) (eVar 5))) (.one 11) [11] (fYes) (eTup (aCons (eC (.str "block")) (aCons (eVar 5) (aCons (eVar 11) (aNil)))))) (aNil)) mExt)) (sRet (eVar 4))))))))
def ff_forms_in : FF := fnRun N_forms_in.length m_forms_in
theorem S_forms_in : FnScope N_forms_in ["formula"] (defScope (top 49)) := C8.fnScope_by (by decide +kernel)
theorem b_forms_in {fa : Addr} (M : Md w K mg) (cdv : Value) (A : Around) (outer : List Env) (s : Shared) (H : Hp) (E : XK)
    (C : Ctx (cxOf (L2.CX P w) P w K mg base N_forms_in "forms_in" (defScope (top 49)) fa cdv A outer s H E) 1) (tk : Takes (cxOf (L2.CX P w) P w K mg base N_forms_in "forms_in" (defScope (top 49)) fa cdv A outer s H E) (fun c d _ H' => E c d H'))
    (hp : PassesOwn (model P w) (A.deeper (envOfC "forms_in" (defScope (top 49)) s.heap.objs.size fa cdv)) (envOfC "forms_in" (defScope (top 49)) s.heap.objs.size fa cdv) (cxOf (L2.CX P w) P w K mg base N_forms_in "forms_in" (defScope (top 49)) fa cdv A outer s H E).xe) :
    PSsD (cxOf (L2.CX P w) P w K mg base N_forms_in "forms_in" (defScope (top 49)) fa cdv A outer s H E) (fun c d _ H' => E c d H') (defBody (top 49)) m_forms_in := by
  have nd : N_forms_in.Nodup := S_forms_in.nd
  exact psd_cons (psd_asg (ped_tup (pad_cons (ped_get C.hu (ped_var (pe_var (i := 0) rfl (.inr (.inl rfl)))) (ped_int)) (pad_cons (ped_b1 cald_len rfl M.b_len boot_len (pad_cons (ped_get C.hu (ped_var (pe_var (i := 0) rfl (.inr (.inl rfl)))) (ped_int)) (pad_nil))) (pad_cons (ped_rg2 C.calm rfl M.b_list rfl M.b_range (ped_int) (ped_bin opd_add (ped_call (cal_bits_in M) C (by decide) tk rfl (pad_cons (ped_var (pe_var (i := 0) rfl (.inr (.inl rfl)))) (pad_nil))) (ped_int))) (pad_nil))))) (pgd_tup C.calm (pgds_cons (i := 1) nd rfl (.inr rfl) (pgds_cons (i := 2) nd rfl (.inr rfl) (pgds_cons (i := 3) nd rfl (.inl rfl) (pgds_nil)))))) (psd_cons (psd_setLcL (own := [("c", 5)]) C.calm nd rfl rfl (sw_true rfl rfl rfl (by decide +kernel)) (pid_rng1 rfl M.b_range (pad_cons (ped_var (pe_var (i := 2) rfl (.inr (.inl rfl)))) (pad_nil))) (blkOk_by (by kernel_rfl)) (fun _ _ _ _ _ => pgd_one nd rfl (.inl rfl)) (fun _ _ _ _ _ => ptsd_nil) (fun _ _ _ _ _ => ped_tup (pad_cons (ped_str) (pad_cons (ped_var (pe_var (i := 5) rfl (.inl rfl))) (pad_nil)))) (by decide)) (psd_cons (psd_expr (ped_extend (ped_var (pe_var (i := 4) rfl (.inl rfl))) (pad_cons (ped_lc2 (own := [("c", 5), ("u", 6)]) (vs1 := [6]) C.calm nd (pid_rng1 rfl M.b_range (pad_cons (ped_var (pe_var (i := 2) rfl (.inr (.inl rfl)))) (pad_nil))) (blkOk_by (by kernel_rfl)) (by decide) (fun _ _ _ _ _ => pgd_one nd rfl (.inl rfl)) (fun _ _ _ _ _ => ptsd_nil) (fun _ _ _ _ _ => pid_rng2 rfl M.b_range (pad_cons (ped_int) (pad_cons (ped_bin opd_add (ped_var (pe_var (i := 1) rfl (.inr (.inl rfl)))) (ped_int)) (pad_nil)))) (fun _ _ _ _ _ => pgd_one nd rfl (.inl rfl)) (fun _ _ _ _ _ => ptsd_nil) (fun _ _ _ _ _ => ped_tup (pad_cons (ped_str) (pad_cons (ped_var (pe_var (i := 5) rfl (.inl rfl))) (pad_cons (ped_var (pe_var (i := 6) rfl (.inl rfl))) (pad_nil))))) (by decide) (by decide)) (pad_nil)))) (psd_cons (psd_expr (ped_extend (ped_var (pe_var (i := 4) rfl (.inl rfl))) (pad_cons (ped_lc2 (own := [("c", 5), ("d", 7)]) (vs1 := [7]) C.calm nd (pid_rng1 rfl M.b_range (pad_cons (ped_var (pe_var (i := 2) rfl (.inr (.inl rfl)))) (pad_nil))) (blkOk_by (by kernel_rfl)) (by decide) (fun _ _ _ _ _ => pgd_one nd rfl (.inl rfl)) (fun _ _ _ _ _ => ptsd_nil) (fun _ _ _ _ _ => pid_rng1 rfl M.b_range (pad_cons (ped_var (pe_var (i := 2) rfl (.inr (.inl rfl)))) (pad_nil))) (fun _ _ _ _ _ => pgd_one nd rfl (.inl rfl)) (fun _ _ _ _ _ => ptsd_nil) (fun _ _ _ _ _ => ped_tup (pad_cons (ped_str) (pad_cons (ped_var (pe_var (i := 5) rfl (.inl rfl))) (pad_cons (ped_var (pe_var (i := 7) rfl (.inl rfl))) (pad_nil))))) (by decide) (by decide)) (pad_nil)))) (psd_cons (psd_expr (ped_extend (ped_var (pe_var (i := 4) rfl (.inl rfl))) (pad_cons (ped_lc2 (own := [("bit", 8), ("sign", 9)]) (vs1 := [9]) C.calm nd (pid_seq (ped_var (pe_var (i := 3) rfl (.inl rfl)))) (blkOk_by (by kernel_rfl)) (by decide) (fun _ _ _ _ _ => pgd_one nd rfl (.inl rfl)) (fun _ _ _ _ _ => ptsd_nil) (fun _ _ _ _ _ => pid_seq (ped_tup (pad_cons (ped_neg (ped_int)) (pad_cons (ped_int) (pad_nil))))) (fun _ _ _ _ _ => pgd_one nd rfl (.inl rfl)) (fun _ _ _ _ _ => ptsd_nil) (fun _ _ _ _ _ => ped_tup (pad_cons (ped_str) (pad_cons (ped_bin opd_mul (ped_var (pe_var (i := 9) rfl (.inl rfl))) (ped_var (pe_var (i := 8) rfl (.inl rfl)))) (pad_nil)))) (by decide) (by decide)) (pad_nil)))) (psd_cons (psd_expr (ped_extend (ped_var (pe_var (i := 4) rfl (.inl rfl))) (pad_cons (ped_lc2 (own := [("e", 10), ("u", 6)]) (vs1 := [6]) C.calm nd (pid_rng2 rfl M.b_range (pad_cons (ped_bin opd_add (ped_var (pe_var (i := 1) rfl (.inr (.inl rfl)))) (ped_int)) (pad_cons (ped_bin opd_add (ped_call (cal_bits_in M) C (by decide) tk rfl (pad_cons (ped_var (pe_var (i := 0) rfl (.inr (.inl rfl)))) (pad_nil))) (ped_int)) (pad_nil)))) (blkOk_by (by kernel_rfl)) (by decide) (fun _ _ _ _ _ => pgd_one nd rfl (.inl rfl)) (fun _ _ _ _ _ => ptsd_nil) (fun _ _ _ _ _ => pid_seq (ped_call (cal_look_in M) C.blk (by decide) takesF rfl (pad_cons (ped_var (pe_var (i := 0) rfl (.inr (.inl rfl)))) (pad_cons (ped_var (pe_var (i := 10) rfl (.inl rfl))) (pad_nil))))) (fun _ _ _ _ _ => pgd_one nd rfl (.inl rfl)) (fun _ _ _ _ _ => ptsd_nil) (fun _ _ _ _ _ => ped_tup (pad_cons (ped_str) (pad_cons (ped_var (pe_var (i := 10) rfl (.inl rfl))) (pad_cons (ped_var (pe_var (i := 6) rfl (.inl rfl))) (pad_nil))))) (by decide) (by decide)) (pad_nil)))) (psd_cons (psd_expr (ped_extend (ped_var (pe_var (i := 4) rfl (.inl rfl))) (pad_cons (ped_lc2 (own := [("c", 5), ("item", 11)]) (vs1 := [11]) C.calm nd (pid_rng1 rfl M.b_range (pad_cons (ped_var (pe_var (i := 2) rfl (.inr (.inl rfl)))) (pad_nil))) (blkOk_by (by kernel_rfl)) (by decide) (fun _ _ _ _ _ => pgd_one nd rfl (.inl rfl)) (fun _ _ _ _ _ => ptsd_nil) (fun _ _ _ _ _ => pid_seq (ped_get C.blk.hu (ped_get C.blk.hu (ped_var (pe_var (i := 0) rfl (.inr (.inl rfl)))) (ped_int)) (ped_var (pe_var (i := 5) rfl (.inl rfl))))) (fun _ _ _ _ _ => pgd_one nd rfl (.inl rfl)) (fun _ _ _ _ _ => ptsd_nil) (fun _ _ _ _ _ => ped_tup (pad_cons (ped_str) (pad_cons (ped_var (pe_var (i := 5) rfl (.inl rfl))) (pad_cons (ped_var (pe_var (i := 11) rfl (.inl rfl))) (pad_nil))))) (by decide) (by decide)) (pad_nil)))) (psd_one (psd_ret (ped_var (pe_var (i := 4) rfl (.inl rfl)))))))))))
theorem cal_forms_in (M : Md w K mg) : CalG P w K mg base 2 "forms_in" 1 ff_forms_in := by
  obtain ⟨fd, F⟩ := M.d_forms_in
  exact ⟨_, fd, ["formula"], fnD F S_forms_in fun cdv A outer s H E C tk hp => b_forms_in M cdv A outer s H E C tk hp, M.g_forms_in, F.kp, FunD.bindsN F fun _ _ _ _ _ _ us hl => match us, hl with | [_], _ => rfl⟩
/-! steps_at -/
def N_steps_at : List Str := ["formula", "step"]
def m_steps_at : FSt := sSeq (sExpr (eCall 1 ff_need_formula (aCons (eVar 0) (aNil)))) (sRet (eB1 gTuple (aCons (eSort (aCons (eLc (iSeq (eCall 1 ff_forms_in (aCons (eVar 0) (aNil)))) (.one 1) [1] (toB (eBin gIsNot (eCall 2 ff_step_done (aCons (eVar 0) (aCons (eVar 1) (aNil)))) (eC .none))) (eVar 1)) (aNil))) (aNil))))
def ff_steps_at : FF := fnRun N_steps_at.length m_steps_at
theorem S_steps_at : FnScope N_steps_at ["formula"] (defScope (top 51)) := C8.fnScope_by (by decide +kernel)
theorem b_steps_at {fa : Addr} (M : Md w K mg) (cdv : Value) (A : Around) (outer : List Env) (s : Shared) (H : Hp) (E : XK)
    (C : Ctx (cxOf (L2.CX P w) P w K mg base N_steps_at "steps_at" (defScope (top 51)) fa cdv A outer s H E) 5) (tk : Takes (cxOf (L2.CX P w) P w K mg base N_steps_at "steps_at" (defScope (top 51)) fa cdv A outer s H E) (fun c d _ H' => E c d H'))
    (hp : PassesOwn (model P w) (A.deeper (envOfC "steps_at" (defScope (top 51)) s.heap.objs.size fa cdv)) (envOfC "steps_at" (defScope (top 51)) s.heap.objs.size fa cdv) (cxOf (L2.CX P w) P w K mg base N_steps_at "steps_at" (defScope (top 51)) fa cdv A outer s H E).xe) :
    PSsD (cxOf (L2.CX P w) P w K mg base N_steps_at "steps_at" (defScope (top 51)) fa cdv A outer s H E) (fun c d _ H' => E c d H') (defBody (top 51)) m_steps_at := by
  have nd : N_steps_at.Nodup := S_steps_at.nd
  exact psd_cons (psd_expr (ped_call (cal_need_formula M) C (by decide) tk rfl (pad_cons (ped_var (pe_var (i := 0) rfl (.inr (.inl rfl)))) (pad_nil)))) (psd_one (psd_ret (ped_t1 cald_tuple rfl M.b_tuple boot_tuple (pad_cons (ped_sort C.hu C.calm rfl M.b_sorted (pad_cons (ped_lc (own := [("step", 1)]) C.calm nd (pid_seq (ped_call (cal_forms_in M) C (by decide) tk rfl (pad_cons (ped_var (pe_var (i := 0) rfl (.inr (.inl rfl)))) (pad_nil)))) (blkOk_by (by kernel_rfl)) (fun _ _ _ _ _ => pgd_one nd rfl (.inl rfl)) (fun _ _ _ _ _ => ptsd_one (ptd_cmp opd_isNot (ped_call (cal_step_done M) C.blk (by decide) takesF rfl (pad_cons (ped_var (pe_var (i := 0) rfl (.inr (.inl rfl)))) (pad_cons (ped_var (pe_var (i := 1) rfl (.inl rfl))) (pad_nil)))) (ped_non))) (fun _ _ _ _ _ => ped_var (pe_var (i := 1) rfl (.inl rfl))) (by decide)) (pad_nil))) (pad_nil)))))
theorem cal_steps_at (M : Md w K mg) : CalG P w K mg base 6 "steps_at" 1 ff_steps_at := by
  obtain ⟨fd, F⟩ := M.d_steps_at
  exact ⟨_, fd, ["formula"], fnD F S_steps_at fun cdv A outer s H E C tk hp => b_steps_at M cdv A outer s H E C tk hp, M.g_steps_at, F.kp, FunD.bindsN F fun _ _ _ _ _ _ us hl => match us, hl with | [_], _ => rfl⟩
/-! first_step -/
def N_first_step : List Str := ["formula", "step"]
def m_first_step : FSt := sSeq (sFor (iSeq (eCall 1 ff_forms_in (aCons (eVar 0) (aNil)))) (.one 1) (sIf (toB (eBin gIsNot (eCall 2 ff_step_done (aCons (eVar 0) (aCons (eVar 1) (aNil)))) (eC .none))) (sRet (eVar 1)) (sNx))) (sRet (eC .none))
def ff_first_step : FF := fnRun N_first_step.length m_first_step
theorem S_first_step : FnScope N_first_step ["formula"] (defScope (top 50)) := C8.fnScope_by (by decide +kernel)
theorem b_first_step {fa : Addr} (M : Md w K mg) (cdv : Value) (A : Around) (outer : List Env) (s : Shared) (H : Hp) (E : XK)
    (C : Ctx (cxOf (L2.CX P w) P w K mg base N_first_step "first_step" (defScope (top 50)) fa cdv A outer s H E) 5) (tk : Takes (cxOf (L2.CX P w) P w K mg base N_first_step "first_step" (defScope (top 50)) fa cdv A outer s H E) (fun c d _ H' => E c d H'))
    (hp : PassesOwn (model P w) (A.deeper (envOfC "first_step" (defScope (top 50)) s.heap.objs.size fa cdv)) (envOfC "first_step" (defScope (top 50)) s.heap.objs.size fa cdv) (cxOf (L2.CX P w) P w K mg base N_first_step "first_step" (defScope (top 50)) fa cdv A outer s H E).xe) :
    PSsD (cxOf (L2.CX P w) P w K mg base N_first_step "first_step" (defScope (top 50)) fa cdv A outer s H E) (fun c d _ H' => E c d H') (defBody (top 50)) m_first_step := by
  have nd : N_first_step.Nodup := S_first_step.nd
  exact psd_cons (psd_for hp C.calm (pid_seq (ped_call (cal_forms_in M) C (by decide) tk rfl (pad_cons (ped_var (pe_var (i := 0) rfl (.inl rfl))) (pad_nil)))) (pgd_one nd rfl (.inl rfl)) (psd_one (psd_if (ptd_cmp opd_isNot (ped_call (cal_step_done M) C (by decide) tk rfl (pad_cons (ped_var (pe_var (i := 0) rfl (.inl rfl))) (pad_cons (ped_var (pe_var (i := 1) rfl (.inl rfl))) (pad_nil)))) (ped_non)) (psd_one (psd_ret (ped_var (pe_var (i := 1) rfl (.inl rfl))))) (psd_nil)))) (psd_one (psd_ret (ped_non)))
theorem cal_first_step (M : Md w K mg) : CalG P w K mg base 6 "first_step" 1 ff_first_step := by
  obtain ⟨fd, F⟩ := M.d_first_step
  exact ⟨_, fd, ["formula"], fnD F S_first_step fun cdv A outer s H E C tk hp => b_first_step M cdv A outer s H E C tk hp, M.g_first_step, F.kp, FunD.bindsN F fun _ _ _ _ _ _ us hl => match us, hl with | [_], _ => rfl⟩
/-! is_bare -/
def N_is_bare : List Str := ["formula"]
def m_is_bare : FSt := sSeq (sExpr (eCall 1 ff_need_formula (aCons (eVar 0) (aNil)))) (sRet (eBin gIs (eCall 1 ff_first_step (aCons (eVar 0) (aNil))) (eC .none)))
def ff_is_bare : FF := fnRun N_is_bare.length m_is_bare
theorem S_is_bare : FnScope N_is_bare ["formula"] (defScope (top 52)) := C8.fnScope_by (by decide +kernel)
theorem b_is_bare {fa : Addr} (M : Md w K mg) (cdv : Value) (A : Around) (outer : List Env) (s : Shared) (H : Hp) (E : XK)
    (C : Ctx (cxOf (L2.CX P w) P w K mg base N_is_bare "is_bare" (defScope (top 52)) fa cdv A outer s H E) 6) (tk : Takes (cxOf (L2.CX P w) P w K mg base N_is_bare "is_bare" (defScope (top 52)) fa cdv A outer s H E) (fun c d _ H' => E c d H'))
    (hp : PassesOwn (model P w) (A.deeper (envOfC "is_bare" (defScope (top 52)) s.heap.objs.size fa cdv)) (envOfC "is_bare" (defScope (top 52)) s.heap.objs.size fa cdv) (cxOf (L2.CX P w) P w K mg base N_is_bare "is_bare" (defScope (top 52)) fa cdv A outer s H E).xe) :
    PSsD (cxOf (L2.CX P w) P w K mg base N_is_bare "is_bare" (defScope (top 52)) fa cdv A outer s H E) (fun c d _ H' => E c d H') (defBody (top 52)) m_is_bare := by
  have nd : N_is_bare.Nodup := S_is_bare.nd
  exact psd_cons (psd_expr (ped_call (cal_need_formula M) C (by decide) tk rfl (pad_cons (ped_var (pe_var (i := 0) rfl (.inl rfl))) (pad_nil)))) (psd_one (psd_ret (ped_cmp opd_is (ped_call (cal_first_step M) C (by decide) tk rfl (pad_cons (ped_var (pe_var (i := 0) rfl (.inl rfl))) (pad_nil))) (ped_non))))
theorem cal_is_bare (M : Md w K mg) : CalG P w K mg base 7 "is_bare" 1 ff_is_bare := by
  obtain ⟨fd, F⟩ := M.d_is_bare
  exact ⟨_, fd, ["formula"], fnD F S_is_bare fun cdv A outer s H E C tk hp => b_is_bare M cdv A outer s H E C tk hp, M.g_is_bare, F.kp, FunD.bindsN F fun _ _ _ _ _ _ us hl => match us, hl with | [_], _ => rfl⟩
/-! _law_case_right -/
def N__law_case_right : List Str := ["formula", "step", "due"]
def m__law_case_right : FSt := sSeq (sIf (toB (eBin gIs (eVar 2) (eC .none))) (sRet (eAnd (eBin gEq (eCall 2 ff_step_bar (aCons (eVar 0) (aCons (eTup (aCons (eVar 1) (aNil))) (aNil)))) (eC (.int 0))) (e2 (inD gNotIn true) (eVar 1) (eCall 1 ff_steps_at (aCons (eVar 0) (aNil)))))) (sNx)) (sSeq (sIf (tOrD (toB (eBin gIsNot (eCall 2 ff_step_bar (aCons (eVar 0) (aCons (eTup (aCons (eVar 1) (aNil))) (aNil)))) (eC .none))) (tOrD (toB (e2 (inD gNotIn true) (eVar 1) (eCall 1 ff_steps_at (aCons (eVar 0) (aNil))))) (toB (eBin gIsNot (eCall 1 ff_is_bare (aCons (eVar 0) (aNil))) (eC (.bool false)))))) (sRet (eC (.bool false))) (sNx)) (sRet (eBin gEq (eCall 2 ff_steps_done (aCons (eVar 0) (aCons (eTup (aCons (eVar 1) (aNil))) (aNil)))) (eVar 2))))
def ff__law_case_right : FF := fnRun N__law_case_right.length m__law_case_right
theorem S__law_case_right : FnScope N__law_case_right ["formula", "step", "due"] (defScope (top 61)) := C8.fnScope_by (by decide +kernel)
theorem b__law_case_right {fa : Addr} (M : Md w K mg) (cdv : Value) (A : Around) (outer : List Env) (s : Shared) (H : Hp) (E : XK)
    (C : Ctx (cxOf (L2.CX P w) P w K mg base N__law_case_right "_law_case_right" (defScope (top 61)) fa cdv A outer s H E) 8) (tk : Takes (cxOf (L2.CX P w) P w K mg base N__law_case_right "_law_case_right" (defScope (top 61)) fa cdv A outer s H E) (fun c d _ H' => E c d H'))
    (hp : PassesOwn (model P w) (A.deeper (envOfC "_law_case_right" (defScope (top 61)) s.heap.objs.size fa cdv)) (envOfC "_law_case_right" (defScope (top 61)) s.heap.objs.size fa cdv) (cxOf (L2.CX P w) P w K mg base N__law_case_right "_law_case_right" (defScope (top 61)) fa cdv A outer s H E).xe) :
    PSsD (cxOf (L2.CX P w) P w K mg base N__law_case_right "_law_case_right" (defScope (top 61)) fa cdv A outer s H E) (fun c d _ H' => E c d H') (defBody (top 61)) m__law_case_right := by
  have nd : N__law_case_right.Nodup := S__law_case_right.nd
  exact psd_cons (psd_if (ptd_cmp opd_is (ped_var (pe_var (i := 2) rfl (.inl rfl))) (ped_non)) (psd_one (psd_ret (ped_and (ped_cmp (opd_eq C.hu) (ped_call (cal_step_bar M) C (by decide) tk rfl (pad_cons (ped_var (pe_var (i := 0) rfl (.inl rfl))) (pad_cons (ped_tup (pad_cons (ped_var (pe_var (i := 1) rfl (.inl rfl))) (pad_nil))) (pad_nil)))) (ped_int)) (ped_one (ped_notIn C.hu (ped_var (pe_var (i := 1) rfl (.inl rfl))) (ped_call (cal_steps_at M) C (by decide) tk rfl (pad_cons (ped_var (pe_var (i := 0) rfl (.inl rfl))) (pad_nil)))))))) (psd_nil)) (psd_cons (psd_if (ptd_w (pwd_or (ptd_cmp opd_isNot (ped_call (cal_step_bar M) C (by decide) tk rfl (pad_cons (ped_var (pe_var (i := 0) rfl (.inl rfl))) (pad_cons (ped_tup (pad_cons (ped_var (pe_var (i := 1) rfl (.inl rfl))) (pad_nil))) (pad_nil)))) (ped_non)) (pwd_or (ptd_notIn C.hu (ped_var (pe_var (i := 1) rfl (.inl rfl))) (ped_call (cal_steps_at M) C (by decide) tk rfl (pad_cons (ped_var (pe_var (i := 0) rfl (.inl rfl))) (pad_nil)))) (pwd_one_or (ptd_cmp opd_isNot (ped_call (cal_is_bare M) C (by decide) tk rfl (pad_cons (ped_var (pe_var (i := 0) rfl (.inl rfl))) (pad_nil))) (ped_bl)))))) (psd_one (psd_ret (ped_bl))) (psd_nil)) (psd_one (psd_ret (ped_cmp (opd_eq C.hu) (ped_call (cal_steps_done M) C (by decide) tk rfl (pad_cons (ped_var (pe_var (i := 0) rfl (.inl rfl))) (pad_cons (ped_tup (pad_cons (ped_var (pe_var (i := 1) rfl (.inl rfl))) (pad_nil))) (pad_nil)))) (ped_var (pe_var (i := 2) rfl (.inl rfl)))))))
theorem cal__law_case_right (M : Md w K mg) : CalG P w K mg base 9 "_law_case_right" 3 ff__law_case_right := by
  obtain ⟨fd, F⟩ := M.d__law_case_right
  exact ⟨_, fd, ["formula", "step", "due"], fnD F S__law_case_right fun cdv A outer s H E C tk hp => b__law_case_right M cdv A outer s H E C tk hp, M.g__law_case_right, F.kp, FunD.bindsN F fun _ _ _ _ _ _ us hl => match us, hl with | [_, _, _], _ => rfl⟩
/-! law -/
def N_law : List Str := ["script", "pen", "formula", "step", "made", "some", "due", "can", "told", "a", "looks", "fresh", "k", "look", "u"]
def m_law : FSt := sSeq (sAsg (.one 1) (eCall 1 ff__law_pen (aCons (eVar 0) (aNil)))) (sSeq (sFor (iSeq (eBin gAdd (eCall 0 ff__law_units aNil) (eCall 0 ff__law_blocks aNil))) (.tup [2, 3, 4]) (sSeq (sAsg (.one 2) (eBin gAdd (eSl (eVar 2) (oNo) (oSome (eC (.int 2)))) (eTup (aCons (eB1 gTuple (aCons (eSort (aCons (e2 ixD (eVar 2) (eC (.int 2))) (aNil))) (aNil))) (aNil))))) (sSeq (sAsg (.one 5) (eIf (toB (eBin gEq (eCall 2 ff__law_draw (aCons (eVar 1) (aCons (eC (.int 2)) (aNil)))) (eC (.int 0)))) (eLst (aCons (eTup (aCons (eVar 2) (aCons (eVar 3) (aCons (eVar 4) (aNil))))) (aNil))) (eLst (aNil)))) (sFor (iSeq (eBin gAdd (eVar 5) (eLst (aCons (eCall 4 ff__law_turned (aCons (eVar 1) (aCons (eVar 2) (aCons (eVar 3) (aCons (eVar 4) (aNil)))))) (aNil))))) (.tup [2, 3, 4]) (sSeq (sAsg (.one 6) (eIf (toB (eBin gIs (eVar 4) (eC .none))) (eC .none) (eBin gAdd (eSl (eVar 2) (oNo) (oSome (eC (.int 2)))) (eTup (aCons (eB1 gTuple (aCons (eSort (aCons (eVar 4) (aNil))) (aNil))) (aNil)))))) (sIf (tNotD (toT (eCall 3 ff__law_case_right (aCons (eVar 2) (aCons (eVar 3) (aCons (eVar 6) (aNil))))))) (sRet (eC (.bool false))) (sNx))))))) (sSeq (sFor (iSeq (eCall 0 ff__law_sights aNil)) (.tup [2, 3, 7]) (sSeq (sAsg (.one 2) (eBin gAdd (eSl (eVar 2) (oNo) (oSome (eC (.int 2)))) (eTup (aCons (eB1 gTuple (aCons (eSort (aCons (e2 ixD (eVar 2) (eC (.int 2))) (aNil))) (aNil))) (aNil))))) (sSeq (sAsg (.tup [2, 3, 8]) (eCall 4 ff__law_turned (aCons (eVar 1) (aCons (eVar 2) (aCons (eVar 3) (aCons (eC .none) (aNil))))))) (sSeq (sAsg (.tup [9, 10]) (eSl (eVar 2) (oNo) (oSome (eC (.int 2))))) (sSeq (sAsg (.one 11) (eLc (iSeq (eVar 10)) (.one 13) [13] (fYes) (eB1 gTuple (aCons (eLc (iSeq (eVar 13)) (.one 14) [14] (toB (eBin gNe (eVar 14) (e2 ixD (eVar 3) (eC (.int 2))))) (eVar 14)) (aNil))))) (sSeq (sAsg (.one 12) (eBin gSub (eBin gSub (e2 ixD (eVar 3) (eC (.int 1))) (eVar 9)) (eC (.int 1)))) (sSeq (sAsg (.one 6) (eIf (toT (eVar 7)) (eTup (aCons (eVar 9) (aCons (eBin gAdd (eBin gAdd (eSl (eVar 10) (oNo) (oSome (eVar 12))) (eB1 gTuple (aCons (eSl (eVar 11) (oSome (eVar 12)) (oSome (eBin gAdd (eVar 12) (eC (.int 1))))) (aNil)))) (eSl (eVar 10) (oSome (eBin gAdd (eVar 12) (eC (.int 1)))) (oNo))) (aCons (e2 ixD (eVar 2) (eC (.int 2))) (aNil))))) (eC .none))) (sIf (tNotD (toT (eCall 3 ff__law_case_right (aCons (eVar 2) (aCons (eVar 3) (aCons (eVar 6) (aNil))))))) (sRet (eC (.bool false))) (sNx))))))))) (sRet (eAnd (eBin gIs (eCall 1 ff_is_bare (aCons (eTup (aCons (eC (.int 2)) (aCons (eTup (aCons (eTup (aCons (eC (.int 1)) (aNil))) (aNil))) (aCons (eTup (aNil)) (aNil))))) (aNil))) (eC (.bool false))) (eAnd (eBin gIs (eCall 1 ff_is_bare (aCons (eTup (aCons (eC (.int 2)) (aCons (eTup (aCons (eTup (aNil)) (aNil))) (aCons (eTup (aNil)) (aNil))))) (aNil))) (eC (.bool true))) (eBin gIs (eCall 1 ff_is_bare (aCons (eTup (aCons (eC (.int 2)) (aCons (eTup (aCons (eTup (aNil)) (aNil))) (aCons (eTup (aCons (eTup (aNil)) (aNil))) (aNil))))) (aNil))) (eC (.bool true))))))))
def ff_law : FF := fnRun N_law.length m_law
theorem S_law : FnScope N_law ["script"] (defScope (top 63)) := C8.fnScope_by (by decide +kernel)
theorem b_law {fa : Addr} (M : Md w K mg) (cdv : Value) (A : Around) (outer : List Env) (s : Shared) (H : Hp) (E : XK)
    (C : Ctx (cxOf (L2.CX P w) P w K mg base N_law "law" (defScope (top 63)) fa cdv A outer s H E) 9) (tk : Takes (cxOf (L2.CX P w) P w K mg base N_law "law" (defScope (top 63)) fa cdv A outer s H E) (fun c d _ H' => E c d H'))
    (hp : PassesOwn (model P w) (A.deeper (envOfC "law" (defScope (top 63)) s.heap.objs.size fa cdv)) (envOfC "law" (defScope (top 63)) s.heap.objs.size fa cdv) (cxOf (L2.CX P w) P w K mg base N_law "law" (defScope (top 63)) fa cdv A outer s H E).xe) :
    PSsD (cxOf (L2.CX P w) P w K mg base N_law "law" (defScope (top 63)) fa cdv A outer s H E) (fun c d _ H' => E c d H') (defBody (top 63)) m_law := by
  have nd : N_law.Nodup := S_law.nd
  exact psd_cons (psd_set (i := 1) nd rfl (.inl rfl) (ped_call (cal__law_pen M) C (by decide) tk rfl (pad_cons (ped_var (pe_var (i := 0) rfl (.inl rfl))) (pad_nil)))) (psd_cons (psd_for hp C.calm (pid_seq (ped_bin opd_add (ped_call0 (cal__law_units M) C (by decide) tk rfl) (ped_call0 (cal__law_blocks M) C (by decide) tk rfl))) (pgd_tup C.calm (pgds_cons (i := 2) nd rfl (.inl rfl) (pgds_cons (i := 3) nd rfl (.inr rfl) (pgds_cons (i := 4) nd rfl (.inl rfl) (pgds_nil))))) (psd_cons (psd_set (i := 2) nd rfl (.inl rfl) (ped_bin opd_add (ped_sl (ped_var (pe_var (i := 2) rfl (.inl rfl))) (pod_no) (pod_some (ped_int))) (ped_tup (pad_cons (ped_t1 cald_tuple rfl M.b_tuple boot_tuple (pad_cons (ped_sort C.hu C.calm rfl M.b_sorted (pad_cons (ped_get C.hu (ped_var (pe_var (i := 2) rfl (.inl rfl))) (ped_int)) (pad_nil))) (pad_nil))) (pad_nil))))) (psd_cons (psd_set (i := 5) nd rfl (.inl rfl) (ped_if (ptd_cmp (opd_eq C.hu) (ped_call (cal__law_draw M) C (by decide) tk rfl (pad_cons (ped_var (pe_var (i := 1) rfl (.inl rfl))) (pad_cons (ped_int) (pad_nil)))) (ped_int)) (ped_lst (pad_cons (ped_tup (pad_cons (ped_var (pe_var (i := 2) rfl (.inl rfl))) (pad_cons (ped_var (pe_var (i := 3) rfl (.inr (.inl rfl)))) (pad_cons (ped_var (pe_var (i := 4) rfl (.inl rfl))) (pad_nil))))) (pad_nil))) (ped_lst (pad_nil)))) (psd_one (psd_for hp C.calm (pid_seq (ped_bin opd_add (ped_var (pe_var (i := 5) rfl (.inl rfl))) (ped_lst (pad_cons (ped_call (cal__law_turned M) C (by decide) tk rfl (pad_cons (ped_var (pe_var (i := 1) rfl (.inl rfl))) (pad_cons (ped_var (pe_var (i := 2) rfl (.inl rfl))) (pad_cons (ped_var (pe_var (i := 3) rfl (.inr (.inl rfl)))) (pad_cons (ped_var (pe_var (i := 4) rfl (.inl rfl))) (pad_nil)))))) (pad_nil))))) (pgd_tup C.calm (pgds_cons (i := 2) nd rfl (.inl rfl) (pgds_cons (i := 3) nd rfl (.inr rfl) (pgds_cons (i := 4) nd rfl (.inl rfl) (pgds_nil))))) (psd_cons (psd_set (i := 6) nd rfl (.inl rfl) (ped_if (ptd_cmp opd_is (ped_var (pe_var (i := 4) rfl (.inl rfl))) (ped_non)) (ped_non) (ped_bin opd_add (ped_sl (ped_var (pe_var (i := 2) rfl (.inl rfl))) (pod_no) (pod_some (ped_int))) (ped_tup (pad_cons (ped_t1 cald_tuple rfl M.b_tuple boot_tuple (pad_cons (ped_sort C.hu C.calm rfl M.b_sorted (pad_cons (ped_var (pe_var (i := 4) rfl (.inl rfl))) (pad_nil))) (pad_nil))) (pad_nil)))))) (psd_one (psd_if (ptd_not (ptd_val (ped_call (cal__law_case_right M) C (by decide) tk rfl (pad_cons (ped_var (pe_var (i := 2) rfl (.inl rfl))) (pad_cons (ped_var (pe_var (i := 3) rfl (.inr (.inl rfl)))) (pad_cons (ped_var (pe_var (i := 6) rfl (.inl rfl))) (pad_nil))))))) (psd_one (psd_ret (ped_bl))) (psd_nil))))))))) (psd_cons (psd_for hp C.calm (pid_seq (ped_call0 (cal__law_sights M) C (by decide) tk rfl)) (pgd_tup C.calm (pgds_cons (i := 2) nd rfl (.inl rfl) (pgds_cons (i := 3) nd rfl (.inr rfl) (pgds_cons (i := 7) nd rfl (.inl rfl) (pgds_nil))))) (psd_cons (psd_set (i := 2) nd rfl (.inl rfl) (ped_bin opd_add (ped_sl (ped_var (pe_var (i := 2) rfl (.inl rfl))) (pod_no) (pod_some (ped_int))) (ped_tup (pad_cons (ped_t1 cald_tuple rfl M.b_tuple boot_tuple (pad_cons (ped_sort C.hu C.calm rfl M.b_sorted (pad_cons (ped_get C.hu (ped_var (pe_var (i := 2) rfl (.inl rfl))) (ped_int)) (pad_nil))) (pad_nil))) (pad_nil))))) (psd_cons (psd_asg (ped_call (cal__law_turned M) C (by decide) tk rfl (pad_cons (ped_var (pe_var (i := 1) rfl (.inl rfl))) (pad_cons (ped_var (pe_var (i := 2) rfl (.inl rfl))) (pad_cons (ped_var (pe_var (i := 3) rfl (.inr (.inl rfl)))) (pad_cons (ped_non) (pad_nil)))))) (pgd_tup C.calm (pgds_cons (i := 2) nd rfl (.inl rfl) (pgds_cons (i := 3) nd rfl (.inr rfl) (pgds_cons (i := 8) nd rfl (.inl rfl) (pgds_nil)))))) (psd_cons (psd_asg (ped_sl (ped_var (pe_var (i := 2) rfl (.inl rfl))) (pod_no) (pod_some (ped_int))) (pgd_tup C.calm (pgds_cons (i := 9) nd rfl (.inl rfl) (pgds_cons (i := 10) nd rfl (.inl rfl) (pgds_nil))))) (psd_cons (psd_setLc (own := [("look", 13)]) C.calm nd rfl rfl (sw_true rfl rfl rfl (by decide +kernel)) (pid_seq (ped_var (pe_var (i := 10) rfl (.inl rfl)))) (blkOk_by (by kernel_rfl)) (fun _ _ _ _ _ => pgd_one nd rfl (.inl rfl)) (fun _ _ _ _ _ => ptsd_nil) (fun _ _ _ _ _ => ped_t1 cald_tuple rfl M.b_tuple boot_tuple (pad_cons (ped_lc (own := [("u", 14)]) C.blk.calm nd (pid_seq (ped_var (pe_var (i := 13) rfl (.inl rfl)))) (blkOk_by (by kernel_rfl)) (fun _ _ _ _ _ => pgd_one nd rfl (.inl rfl)) (fun _ _ _ _ _ => ptsd_one (ptd_cmp (opd_ne C.blk.blk.hu) (ped_var (pe_var (i := 14) rfl (.inl rfl))) (ped_get C.blk.blk.hu (ped_var (pe_var (i := 3) rfl (.inr (.inl rfl)))) (ped_int)))) (fun _ _ _ _ _ => ped_var (pe_var (i := 14) rfl (.inl rfl))) (by decide)) (pad_nil))) (by decide)) (psd_cons (psd_set (i := 12) nd rfl (.inl rfl) (ped_bin opd_sub (ped_bin opd_sub (ped_get C.hu (ped_var (pe_var (i := 3) rfl (.inr (.inl rfl)))) (ped_int)) (ped_var (pe_var (i := 9) rfl (.inl rfl)))) (ped_int))) (psd_cons (psd_set (i := 6) nd rfl (.inl rfl) (ped_if (ptd_val (ped_var (pe_var (i := 7) rfl (.inl rfl)))) (ped_tup (pad_cons (ped_var (pe_var (i := 9) rfl (.inl rfl))) (pad_cons (ped_bin opd_add (ped_bin opd_add (ped_sl (ped_var (pe_var (i := 10) rfl (.inl rfl))) (pod_no) (pod_some (ped_var (pe_var (i := 12) rfl (.inl rfl))))) (ped_t1 cald_tuple rfl M.b_tuple boot_tuple (pad_cons (ped_sl (ped_var (pe_var (i := 11) rfl (.inl rfl))) (pod_some (ped_var (pe_var (i := 12) rfl (.inl rfl)))) (pod_some (ped_bin opd_add (ped_var (pe_var (i := 12) rfl (.inl rfl))) (ped_int)))) (pad_nil)))) (ped_sl (ped_var (pe_var (i := 10) rfl (.inl rfl))) (pod_some (ped_bin opd_add (ped_var (pe_var (i := 12) rfl (.inl rfl))) (ped_int))) (pod_no))) (pad_cons (ped_get C.hu (ped_var (pe_var (i := 2) rfl (.inl rfl))) (ped_int)) (pad_nil))))) (ped_non))) (psd_one (psd_if (ptd_not (ptd_val (ped_call (cal__law_case_right M) C (by decide) tk rfl (pad_cons (ped_var (pe_var (i := 2) rfl (.inl rfl))) (pad_cons (ped_var (pe_var (i := 3) rfl (.inr (.inl rfl)))) (pad_cons (ped_var (pe_var (i := 6) rfl (.inl rfl))) (pad_nil))))))) (psd_one (psd_ret (ped_bl))) (psd_nil)))))))))) (psd_one (psd_ret (ped_and (ped_cmp opd_is (ped_call (cal_is_bare M) C (by decide) tk rfl (pad_cons (ped_tup (pad_cons (ped_int) (pad_cons (ped_tup (pad_cons (ped_tup (pad_cons (ped_int) (pad_nil))) (pad_nil))) (pad_cons (ped_tup (pad_nil)) (pad_nil))))) (pad_nil))) (ped_bl)) (ped_and (ped_cmp opd_is (ped_call (cal_is_bare M) C (by decide) tk rfl (pad_cons (ped_tup (pad_cons (ped_int) (pad_cons (ped_tup (pad_cons (ped_tup (pad_nil)) (pad_nil))) (pad_cons (ped_tup (pad_nil)) (pad_nil))))) (pad_nil))) (ped_bl)) (ped_one (ped_cmp opd_is (ped_call (cal_is_bare M) C (by decide) tk rfl (pad_cons (ped_tup (pad_cons (ped_int) (pad_cons (ped_tup (pad_cons (ped_tup (pad_nil)) (pad_nil))) (pad_cons (ped_tup (pad_cons (ped_tup (pad_nil)) (pad_nil))) (pad_nil))))) (pad_nil))) (ped_bl)))))))))
theorem cal_law (M : Md w K mg) : CalG P w K mg base 10 "law" 1 ff_law := by
  obtain ⟨fd, F⟩ := M.d_law
  exact ⟨_, fd, ["script"], fnD F S_law fun cdv A outer s H E C tk hp => b_law M cdv A outer s H E C tk hp, M.g_law, F.kp, FunD.bindsN F fun _ _ _ _ _ _ us hl => match us, hl with | [_], _ => rfl⟩
end
end Lw

set_option Elab.async false
set_option linter.all false
set_option maxRecDepth 100000
set_option maxHeartbeats 0
namespace Lw
open PySem PySem.Spec PyProof.Rows L2 DL
def hd0 : He.DefD := ⟨("_law_pen", none), "_law_pen", "_law_pen", defArgs (top 54), defBody (top 54), defScope (top 54), [], []⟩
def hd1 : He.DefD := ⟨("_law_sights", none), "_law_sights", "_law_sights", defArgs (top 60), defBody (top 60), defScope (top 60), [], []⟩
def hd2 : He.DefD := ⟨("_law_units", none), "_law_units", "_law_units", defArgs (top 58), defBody (top 58), defScope (top 58), [], []⟩
def hd3 : He.DefD := ⟨("_law_blocks", none), "_law_blocks", "_law_blocks", defArgs (top 59), defBody (top 59), defScope (top 59), [], []⟩
def hd4 : He.DefD := ⟨("_law_flipped", none), "_law_flipped", "_law_flipped", defArgs (top 57), defBody (top 57), defScope (top 57), [], []⟩
def hd5 : He.DefD := ⟨("_law_draw", none), "_law_draw", "_law_draw", defArgs (top 55), defBody (top 55), defScope (top 55), [], []⟩
def hd6 : He.DefD := ⟨("_law_pick", none), "_law_pick", "_law_pick", defArgs (top 56), defBody (top 56), defScope (top 56), [], []⟩
def hd7 : He.DefD := ⟨("_law_turned", none), "_law_turned", "_law_turned", defArgs (top 62), defBody (top 62), defScope (top 62), [], []⟩
def hd8 : He.DefD := ⟨("is_rising", none), "is_rising", "is_rising", defArgs (top 13), defBody (top 13), defScope (top 13), [], []⟩
def hd9 : He.DefD := ⟨("is_whole", none), "is_whole", "is_whole", defArgs (top 5), defBody (top 5), defScope (top 5), [], []⟩
def hd10 : He.DefD := ⟨("is_count", none), "is_count", "is_count", defArgs (top 6), defBody (top 6), defScope (top 6), [], []⟩
def hd11 : He.DefD := ⟨("is_look", none), "is_look", "is_look", defArgs (top 15), defBody (top 15), defScope (top 15), [], []⟩
def hd12 : He.DefD := ⟨("are_bits_in", none), "are_bits_in", "are_bits_in", defArgs (top 16), defBody (top 16), defScope (top 16), [], []⟩
def hd13 : He.DefD := ⟨("is_clause_in", none), "is_clause_in", "is_clause_in", defArgs (top 14), defBody (top 14), defScope (top 14), [], []⟩
def hd14 : He.DefD := ⟨("is_formula_in", none), "is_formula_in", "is_formula_in", defArgs (top 17), defBody (top 17), defScope (top 17), [], []⟩
def hd15 : He.DefD := ⟨("need_formula", none), "need_formula", "need_formula", defArgs (top 18), defBody (top 18), defScope (top 18), [], []⟩
def hd16 : He.DefD := ⟨("is_step_form", none), "is_step_form", "is_step_form", defArgs (top 26), defBody (top 26), defScope (top 26), [], []⟩
def hd17 : He.DefD := ⟨("are_steps_form", none), "are_steps_form", "are_steps_form", defArgs (top 27), defBody (top 27), defScope (top 27), [], []⟩
def hd18 : He.DefD := ⟨("need_steps", none), "need_steps", "need_steps", defArgs (top 28), defBody (top 28), defScope (top 28), [], []⟩
def hd19 : He.DefD := ⟨("told_again", none), "told_again", "told_again", defArgs (top 29), defBody (top 29), defScope (top 29), [], []⟩
def hd20 : He.DefD := ⟨("without", none), "without", "without", defArgs (top 30), defBody (top 30), defScope (top 30), [], []⟩
def hd21 : He.DefD := ⟨("held_in", none), "held_in", "held_in", defArgs (top 31), defBody (top 31), defScope (top 31), [], []⟩
def hd22 : He.DefD := ⟨("unit_done", none), "unit_done", "unit_done", defArgs (top 34), defBody (top 34), defScope (top 34), [], []⟩
def hd23 : He.DefD := ⟨("pure_done", none), "pure_done", "pure_done", defArgs (top 37), defBody (top 37), defScope (top 37), [], []⟩
def hd24 : He.DefD := ⟨("looks_at_in", none), "looks_at_in", "looks_at_in", defArgs (top 22), defBody (top 22), defScope (top 22), [], []⟩
def hd25 : He.DefD := ⟨("dropped_in", none), "dropped_in", "dropped_in", defArgs (top 23), defBody (top 23), defScope (top 23), [], []⟩
def hd26 : He.DefD := ⟨("drop_done", none), "drop_done", "drop_done", defArgs (top 35), defBody (top 35), defScope (top 35), [], []⟩
def hd27 : He.DefD := ⟨("cover_done", none), "cover_done", "cover_done", defArgs (top 36), defBody (top 36), defScope (top 36), [], []⟩
def hd28 : He.DefD := ⟨("look_in", none), "look_in", "look_in", defArgs (top 20), defBody (top 20), defScope (top 20), [], []⟩
def hd29 : He.DefD := ⟨("can_see", none), "can_see", "can_see", defArgs (top 32), defBody (top 32), defScope (top 32), [], []⟩
def hd30 : He.DefD := ⟨("seen_others", none), "seen_others", "seen_others", defArgs (top 38), defBody (top 38), defScope (top 38), [], []⟩
def hd31 : He.DefD := ⟨("block_done", none), "block_done", "block_done", defArgs (top 39), defBody (top 39), defScope (top 39), [], []⟩
def hd32 : He.DefD := ⟨("ring_in", none), "ring_in", "ring_in", defArgs (top 33), defBody (top 33), defScope (top 33), [], []⟩
def hd33 : He.DefD := ⟨("bits_in", none), "bits_in", "bits_in", defArgs (top 19), defBody (top 19), defScope (top 19), [], []⟩
def hd34 : He.DefD := ⟨("see_done", none), "see_done", "see_done", defArgs (top 40), defBody (top 40), defScope (top 40), [], []⟩
def hd35 : He.DefD := ⟨("step_done", none), "step_done", "step_done", defArgs (top 43), defBody (top 43), defScope (top 43), [], []⟩
def hd36 : He.DefD := ⟨("ways_in", none), "ways_in", "ways_in", defArgs (top 44), defBody (top 44), defScope (top 44), [], []⟩
def hd37 : He.DefD := ⟨("need_ways", none), "need_ways", "need_ways", defArgs (top 47), defBody (top 47), defScope (top 47), [], []⟩
def hd38 : He.DefD := ⟨("steps_done", none), "steps_done", "steps_done", defArgs (top 48), defBody (top 48), defScope (top 48), [], []⟩
def hd39 : He.DefD := ⟨("bar_in", none), "bar_in", "bar_in", defArgs (top 45), defBody (top 45), defScope (top 45), [], []⟩
def hd40 : He.DefD := ⟨("step_bar", none), "step_bar", "step_bar", defArgs (top 46), defBody (top 46), defScope (top 46), [], []⟩
def hd41 : He.DefD := ⟨("forms_in", none), "forms_in", "forms_in", defArgs (top 49), defBody (top 49), defScope (top 49), [], []⟩
def hd42 : He.DefD := ⟨("steps_at", none), "steps_at", "steps_at", defArgs (top 51), defBody (top 51), defScope (top 51), [], []⟩
def hd43 : He.DefD := ⟨("first_step", none), "first_step", "first_step", defArgs (top 50), defBody (top 50), defScope (top 50), [], []⟩
def hd44 : He.DefD := ⟨("is_bare", none), "is_bare", "is_bare", defArgs (top 52), defBody (top 52), defScope (top 52), [], []⟩
def hd45 : He.DefD := ⟨("_law_case_right", none), "_law_case_right", "_law_case_right", defArgs (top 61), defBody (top 61), defScope (top 61), [], []⟩
def hd46 : He.DefD := ⟨("law", none), "law", "law", defArgs (top 63), defBody (top 63), defScope (top 63), [], []⟩
def hfn0 : List He.DefD := [hd0, hd1, hd2, hd3, hd4, hd5, hd6, hd7, hd8, hd9, hd10, hd11, hd12, hd13, hd14, hd15, hd16, hd17, hd18, hd19, hd20, hd21, hd22, hd23, hd24, hd25, hd26, hd27, hd28, hd29]
def hfn1 : List He.DefD := [hd30, hd31, hd32, hd33, hd34, hd35, hd36, hd37, hd38, hd39, hd40, hd41, hd42, hd43, hd44, hd45, hd46]
def hfn : List He.DefD := hfn0 ++ hfn1
def hfa0 : List He.Fa := [.glo "_law_pen", .glo "_law_sights", .glo "_law_units", .glo "_law_blocks", .glo "_law_flipped", .glo "_law_draw", .glo "_law_pick", .glo "_law_turned", .glo "is_rising", .glo "is_whole", .glo "is_count", .glo "is_look", .glo "are_bits_in", .glo "is_clause_in", .glo "is_formula_in", .glo "need_formula", .glo "is_step_form", .glo "are_steps_form", .glo "need_steps", .glo "told_again", .glo "without", .glo "held_in", .glo "unit_done", .glo "pure_done", .glo "looks_at_in", .glo "dropped_in", .glo "drop_done", .glo "cover_done", .glo "look_in", .glo "can_see"]
def hfa1 : List He.Fa := [.glo "seen_others", .glo "block_done", .glo "ring_in", .glo "bits_in", .glo "see_done", .glo "step_done", .glo "ways_in", .glo "need_ways", .glo "steps_done", .glo "bar_in", .glo "step_bar", .glo "forms_in", .glo "steps_at", .glo "first_step", .glo "is_bare", .glo "_law_case_right", .glo "law", .glo "WORDS", .glo "ONES", .glo "TWOS", .free "abs", .free "all", .free "any", .free "bool", .free "int", .free "isinstance", .free "len", .free "list", .free "range", .free "sorted"]
def hfa2 : List He.Fa := [.free "str", .free "tuple", .free "zip", .int "MOST_ASKED" (4), .int "MOST_ANSWERS" (6), .int "MOST_BITS" (9), .int "MOST_LOOKS" (3), .int "MOST_CLAUSES" (16)]
def hfa : List He.Fa := hfa0 ++ hfa1 ++ hfa2
def hnm0 : List PySem.Str := ["__name__", "__name__", "BitError", "BadFormula", "BadSteps", "NotKept", "is_whole", "is_count", "MOST_ASKED", "MOST_ANSWERS", "MOST_BITS", "MOST_LOOKS", "MOST_CLAUSES", "is_rising", "is_clause_in", "is_look", "are_bits_in", "is_formula_in", "need_formula", "bits_in", "look_in", "looks_at_in", "dropped_in", "WORDS", "is_step_form", "are_steps_form", "need_steps", "told_again", "without", "held_in"]
def hnm1 : List PySem.Str := ["can_see", "ring_in", "unit_done", "drop_done", "cover_done", "pure_done", "seen_others", "block_done", "see_done", "ONES", "TWOS", "step_done", "ways_in", "bar_in", "step_bar", "need_ways", "steps_done", "forms_in", "first_step", "steps_at", "is_bare", "_law_pen", "_law_draw", "_law_pick", "_law_flipped", "_law_units", "_law_blocks", "_law_sights", "_law_case_right", "_law_turned"]
def hnm : List PySem.Str := hnm0 ++ hnm1
def hts : List He.Tab := [(fun K => He.ga K "WORDS", ["unit", "drop", "cover", "pure", "block", "see"]), (fun K => He.ga K "ONES", ["unit", "pure"]), (fun K => He.ga K "TWOS", ["drop", "cover", "block", "see"])]
def hex (K : PySem.W.Frag) : Bool := tbB K (He.ga K "WORDS") tb_WORDS && tbB K (He.ga K "ONES") tb_ONES && tbB K (He.ga K "TWOS") tb_TWOS
abbrev R : PySem.W.OpenRow := PySem.W.OpenLaw.row PySem.Challenge.rw_answerbits_k49_whole_conditions_of_steps
abbrev hk : PySem.W.Hook := He.hookX 4 hfa hfn hts [] hex
def ob (s : PySem.W.SharedT) : He.AlX := He.obsX 4 hfa hfn hts [] hex (HandSHeadRun.getT s)
theorem ob_eq (s : PySem.W.SharedT) : ob s = hk.obs s.abs := He.obsX_eq (HandSHeadRun.getT_eq s)
theorem run_f (w : World) : HandSHeadRun.RunEq R (PySem.W.view R.prog [63]) hk ob 12000 hnm (w.withFollow "special-get-raises" false) := by
  intro os
  kernel_rfl
theorem run_t (w : World) : HandSHeadRun.RunEq R (PySem.W.view R.prog [63]) hk ob 12000 hnm (w.withFollow "special-get-raises" true) := by
  intro os
  kernel_rfl
theorem run (w : World) : HandSHeadRun.RunEq R (PySem.W.view R.prog [63]) hk ob 12000 hnm w := PySem.W.byRow2 "special-get-raises" run_f run_t w
theorem md_of {w : World} {K : PySem.W.Frag} {h : Heap} {mg : Str → Option Value} (X : K.In h) (G : h.Ns mainGlobals mg) (c : He.SaysX hfa hfn hts [] hex w h K) : Md w K mg := by
  have cd := c.t.d
  have cx : hex K = true := c.more
  unfold hex at cx
  simp only [Bool.and_eq_true] at cx
  exact {
    g__law_pen := He.glo_ok X G (cd.fact 0 (f := .glo "_law_pen") rfl)
    d__law_pen := cd.def_ 0 (d := hd0) rfl
    g__law_sights := He.glo_ok X G (cd.fact 1 (f := .glo "_law_sights") rfl)
    d__law_sights := cd.def_ 1 (d := hd1) rfl
    g__law_units := He.glo_ok X G (cd.fact 2 (f := .glo "_law_units") rfl)
    d__law_units := cd.def_ 2 (d := hd2) rfl
    g__law_blocks := He.glo_ok X G (cd.fact 3 (f := .glo "_law_blocks") rfl)
    d__law_blocks := cd.def_ 3 (d := hd3) rfl
    g__law_flipped := He.glo_ok X G (cd.fact 4 (f := .glo "_law_flipped") rfl)
    d__law_flipped := cd.def_ 4 (d := hd4) rfl
    g__law_draw := He.glo_ok X G (cd.fact 5 (f := .glo "_law_draw") rfl)
    d__law_draw := cd.def_ 5 (d := hd5) rfl
    g__law_pick := He.glo_ok X G (cd.fact 6 (f := .glo "_law_pick") rfl)
    d__law_pick := cd.def_ 6 (d := hd6) rfl
    g__law_turned := He.glo_ok X G (cd.fact 7 (f := .glo "_law_turned") rfl)
    d__law_turned := cd.def_ 7 (d := hd7) rfl
    g_is_rising := He.glo_ok X G (cd.fact 8 (f := .glo "is_rising") rfl)
    d_is_rising := cd.def_ 8 (d := hd8) rfl
    g_is_whole := He.glo_ok X G (cd.fact 9 (f := .glo "is_whole") rfl)
    d_is_whole := cd.def_ 9 (d := hd9) rfl
    g_is_count := He.glo_ok X G (cd.fact 10 (f := .glo "is_count") rfl)
    d_is_count := cd.def_ 10 (d := hd10) rfl
    g_is_look := He.glo_ok X G (cd.fact 11 (f := .glo "is_look") rfl)
    d_is_look := cd.def_ 11 (d := hd11) rfl
    g_are_bits_in := He.glo_ok X G (cd.fact 12 (f := .glo "are_bits_in") rfl)
    d_are_bits_in := cd.def_ 12 (d := hd12) rfl
    g_is_clause_in := He.glo_ok X G (cd.fact 13 (f := .glo "is_clause_in") rfl)
    d_is_clause_in := cd.def_ 13 (d := hd13) rfl
    g_is_formula_in := He.glo_ok X G (cd.fact 14 (f := .glo "is_formula_in") rfl)
    d_is_formula_in := cd.def_ 14 (d := hd14) rfl
    g_need_formula := He.glo_ok X G (cd.fact 15 (f := .glo "need_formula") rfl)
    d_need_formula := cd.def_ 15 (d := hd15) rfl
    g_is_step_form := He.glo_ok X G (cd.fact 16 (f := .glo "is_step_form") rfl)
    d_is_step_form := cd.def_ 16 (d := hd16) rfl
    g_are_steps_form := He.glo_ok X G (cd.fact 17 (f := .glo "are_steps_form") rfl)
    d_are_steps_form := cd.def_ 17 (d := hd17) rfl
    g_need_steps := He.glo_ok X G (cd.fact 18 (f := .glo "need_steps") rfl)
    d_need_steps := cd.def_ 18 (d := hd18) rfl
    g_told_again := He.glo_ok X G (cd.fact 19 (f := .glo "told_again") rfl)
    d_told_again := cd.def_ 19 (d := hd19) rfl
    g_without := He.glo_ok X G (cd.fact 20 (f := .glo "without") rfl)
    d_without := cd.def_ 20 (d := hd20) rfl
    g_held_in := He.glo_ok X G (cd.fact 21 (f := .glo "held_in") rfl)
    d_held_in := cd.def_ 21 (d := hd21) rfl
    g_unit_done := He.glo_ok X G (cd.fact 22 (f := .glo "unit_done") rfl)
    d_unit_done := cd.def_ 22 (d := hd22) rfl
    g_pure_done := He.glo_ok X G (cd.fact 23 (f := .glo "pure_done") rfl)
    d_pure_done := cd.def_ 23 (d := hd23) rfl
    g_looks_at_in := He.glo_ok X G (cd.fact 24 (f := .glo "looks_at_in") rfl)
    d_looks_at_in := cd.def_ 24 (d := hd24) rfl
    g_dropped_in := He.glo_ok X G (cd.fact 25 (f := .glo "dropped_in") rfl)
    d_dropped_in := cd.def_ 25 (d := hd25) rfl
    g_drop_done := He.glo_ok X G (cd.fact 26 (f := .glo "drop_done") rfl)
    d_drop_done := cd.def_ 26 (d := hd26) rfl
    g_cover_done := He.glo_ok X G (cd.fact 27 (f := .glo "cover_done") rfl)
    d_cover_done := cd.def_ 27 (d := hd27) rfl
    g_look_in := He.glo_ok X G (cd.fact 28 (f := .glo "look_in") rfl)
    d_look_in := cd.def_ 28 (d := hd28) rfl
    g_can_see := He.glo_ok X G (cd.fact 29 (f := .glo "can_see") rfl)
    d_can_see := cd.def_ 29 (d := hd29) rfl
    g_seen_others := He.glo_ok X G (cd.fact 30 (f := .glo "seen_others") rfl)
    d_seen_others := cd.def_ 30 (d := hd30) rfl
    g_block_done := He.glo_ok X G (cd.fact 31 (f := .glo "block_done") rfl)
    d_block_done := cd.def_ 31 (d := hd31) rfl
    g_ring_in := He.glo_ok X G (cd.fact 32 (f := .glo "ring_in") rfl)
    d_ring_in := cd.def_ 32 (d := hd32) rfl
    g_bits_in := He.glo_ok X G (cd.fact 33 (f := .glo "bits_in") rfl)
    d_bits_in := cd.def_ 33 (d := hd33) rfl
    g_see_done := He.glo_ok X G (cd.fact 34 (f := .glo "see_done") rfl)
    d_see_done := cd.def_ 34 (d := hd34) rfl
    g_step_done := He.glo_ok X G (cd.fact 35 (f := .glo "step_done") rfl)
    d_step_done := cd.def_ 35 (d := hd35) rfl
    g_ways_in := He.glo_ok X G (cd.fact 36 (f := .glo "ways_in") rfl)
    d_ways_in := cd.def_ 36 (d := hd36) rfl
    g_need_ways := He.glo_ok X G (cd.fact 37 (f := .glo "need_ways") rfl)
    d_need_ways := cd.def_ 37 (d := hd37) rfl
    g_steps_done := He.glo_ok X G (cd.fact 38 (f := .glo "steps_done") rfl)
    d_steps_done := cd.def_ 38 (d := hd38) rfl
    g_bar_in := He.glo_ok X G (cd.fact 39 (f := .glo "bar_in") rfl)
    d_bar_in := cd.def_ 39 (d := hd39) rfl
    g_step_bar := He.glo_ok X G (cd.fact 40 (f := .glo "step_bar") rfl)
    d_step_bar := cd.def_ 40 (d := hd40) rfl
    g_forms_in := He.glo_ok X G (cd.fact 41 (f := .glo "forms_in") rfl)
    d_forms_in := cd.def_ 41 (d := hd41) rfl
    g_steps_at := He.glo_ok X G (cd.fact 42 (f := .glo "steps_at") rfl)
    d_steps_at := cd.def_ 42 (d := hd42) rfl
    g_first_step := He.glo_ok X G (cd.fact 43 (f := .glo "first_step") rfl)
    d_first_step := cd.def_ 43 (d := hd43) rfl
    g_is_bare := He.glo_ok X G (cd.fact 44 (f := .glo "is_bare") rfl)
    d_is_bare := cd.def_ 44 (d := hd44) rfl
    g__law_case_right := He.glo_ok X G (cd.fact 45 (f := .glo "_law_case_right") rfl)
    d__law_case_right := cd.def_ 45 (d := hd45) rfl
    g_law := He.glo_ok X G (cd.fact 46 (f := .glo "law") rfl)
    d_law := cd.def_ 46 (d := hd46) rfl
    b_abs := He.free_ok X G (cd.fact 50 (f := .free "abs") rfl)
    b_all := He.free_ok X G (cd.fact 51 (f := .free "all") rfl)
    b_any := He.free_ok X G (cd.fact 52 (f := .free "any") rfl)
    b_bool := He.free_ok X G (cd.fact 53 (f := .free "bool") rfl)
    b_int := He.free_ok X G (cd.fact 54 (f := .free "int") rfl)
    b_isinstance := He.free_ok X G (cd.fact 55 (f := .free "isinstance") rfl)
    b_len := He.free_ok X G (cd.fact 56 (f := .free "len") rfl)
    b_list := He.free_ok X G (cd.fact 57 (f := .free "list") rfl)
    b_range := He.free_ok X G (cd.fact 58 (f := .free "range") rfl)
    b_sorted := He.free_ok X G (cd.fact 59 (f := .free "sorted") rfl)
    b_str := He.free_ok X G (cd.fact 60 (f := .free "str") rfl)
    b_tuple := He.free_ok X G (cd.fact 61 (f := .free "tuple") rfl)
    b_zip := He.free_ok X G (cd.fact 62 (f := .free "zip") rfl)
    n_MOST_ASKED := He.int_ok X G (cd.fact 63 (f := .int "MOST_ASKED" (4)) rfl)
    n_MOST_ANSWERS := He.int_ok X G (cd.fact 64 (f := .int "MOST_ANSWERS" (6)) rfl)
    n_MOST_BITS := He.int_ok X G (cd.fact 65 (f := .int "MOST_BITS" (9)) rfl)
    n_MOST_LOOKS := He.int_ok X G (cd.fact 66 (f := .int "MOST_LOOKS" (3)) rfl)
    n_MOST_CLAUSES := He.int_ok X G (cd.fact 67 (f := .int "MOST_CLAUSES" (16)) rfl)
    t_WORDS := ⟨c.t.tab 0 rfl, He.glo_ok X G (cd.fact 47 (f := .glo "WORDS") rfl), tbB_ok cx.1.1⟩
    t_ONES := ⟨c.t.tab 1 rfl, He.glo_ok X G (cd.fact 48 (f := .glo "ONES") rfl), tbB_ok cx.1.2⟩
    t_TWOS := ⟨c.t.tab 2 rfl, He.glo_ok X G (cd.fact 49 (f := .glo "TWOS") rfl), tbB_ok cx.2⟩
  }
end Lw


set_option Elab.async false
set_option linter.all false
set_option maxRecDepth 1000000
set_option maxHeartbeats 0
namespace Lw
open PySem PySem.Spec PyProof.Rows L2 DL
def sA : FSt := sAsg (.one 1) (eCall 1 ff__law_pen (aCons (eVar 0) (aNil)))
def fi1 : FI := iSeq (eBin gAdd (eCall 0 ff__law_units aNil) (eCall 0 ff__law_blocks aNil))
def tg1 : Tg := .tup [2, 3, 4]
def a1 : FSt := sAsg (.one 2) (eBin gAdd (eSl (eVar 2) (oNo) (oSome (eC (.int 2)))) (eTup (aCons (eB1 gTuple (aCons (eSort (aCons (e2 ixD (eVar 2) (eC (.int 2))) (aNil))) (aNil))) (aNil))))
def a5 : FSt := sAsg (.one 5) (eIf (toB (eBin gEq (eCall 2 ff__law_draw (aCons (eVar 1) (aCons (eC (.int 2)) (aNil)))) (eC (.int 0)))) (eLst (aCons (eTup (aCons (eVar 2) (aCons (eVar 3) (aCons (eVar 4) (aNil))))) (aNil))) (eLst (aNil)))
def fT : FE := eCall 4 ff__law_turned (aCons (eVar 1) (aCons (eVar 2) (aCons (eVar 3) (aCons (eVar 4) (aNil)))))
def fiI : FI := iSeq (eBin gAdd (eVar 5) (eLst (aCons fT aNil)))
def tgI : Tg := .tup [2, 3, 4]
def bdI : FSt := sSeq (sAsg (.one 6) (eIf (toB (eBin gIs (eVar 4) (eC .none))) (eC .none) (eBin gAdd (eSl (eVar 2) (oNo) (oSome (eC (.int 2)))) (eTup (aCons (eB1 gTuple (aCons (eSort (aCons (eVar 4) (aNil))) (aNil))) (aNil)))))) (sIf (tNotD (toT (eCall 3 ff__law_case_right (aCons (eVar 2) (aCons (eVar 3) (aCons (eVar 6) (aNil))))))) (sRet (eC (.bool false))) (sNx))
def bd1 : FSt := sSeq a1 (sSeq a5 (sFor fiI tgI bdI))
def fi2 : FI := iSeq (eCall 0 ff__law_sights aNil)
def tg2 : Tg := .tup [2, 3, 7]
def bd2 : FSt := sSeq (sAsg (.one 2) (eBin gAdd (eSl (eVar 2) (oNo) (oSome (eC (.int 2)))) (eTup (aCons (eB1 gTuple (aCons (eSort (aCons (e2 ixD (eVar 2) (eC (.int 2))) (aNil))) (aNil))) (aNil))))) (sSeq (sAsg (.tup [2, 3, 8]) (eCall 4 ff__law_turned (aCons (eVar 1) (aCons (eVar 2) (aCons (eVar 3) (aCons (eC .none) (aNil))))))) (sSeq (sAsg (.tup [9, 10]) (eSl (eVar 2) (oNo) (oSome (eC (.int 2))))) (sSeq (sAsg (.one 11) (eLc (iSeq (eVar 10)) (.one 13) [13] (fYes) (eB1 gTuple (aCons (eLc (iSeq (eVar 13)) (.one 14) [14] (toB (eBin gNe (eVar 14) (e2 ixD (eVar 3) (eC (.int 2))))) (eVar 14)) (aNil))))) (sSeq (sAsg (.one 12) (eBin gSub (eBin gSub (e2 ixD (eVar 3) (eC (.int 1))) (eVar 9)) (eC (.int 1)))) (sSeq (sAsg (.one 6) (eIf (toT (eVar 7)) (eTup (aCons (eVar 9) (aCons (eBin gAdd (eBin gAdd (eSl (eVar 10) (oNo) (oSome (eVar 12))) (eB1 gTuple (aCons (eSl (eVar 11) (oSome (eVar 12)) (oSome (eBin gAdd (eVar 12) (eC (.int 1))))) (aNil)))) (eSl (eVar 10) (oSome (eBin gAdd (eVar 12) (eC (.int 1)))) (oNo))) (aCons (e2 ixD (eVar 2) (eC (.int 2))) (aNil))))) (eC .none))) (sIf (tNotD (toT (eCall 3 ff__law_case_right (aCons (eVar 2) (aCons (eVar 3) (aCons (eVar 6) (aNil))))))) (sRet (eC (.bool false))) (sNx)))))))
def sR : FSt := sRet (eAnd (eBin gIs (eCall 1 ff_is_bare (aCons (eTup (aCons (eC (.int 2)) (aCons (eTup (aCons (eTup (aCons (eC (.int 1)) (aNil))) (aNil))) (aCons (eTup (aNil)) (aNil))))) (aNil))) (eC (.bool false))) (eAnd (eBin gIs (eCall 1 ff_is_bare (aCons (eTup (aCons (eC (.int 2)) (aCons (eTup (aCons (eTup (aNil)) (aNil))) (aCons (eTup (aNil)) (aNil))))) (aNil))) (eC (.bool true))) (eBin gIs (eCall 1 ff_is_bare (aCons (eTup (aCons (eC (.int 2)) (aCons (eTup (aCons (eTup (aNil)) (aNil))) (aCons (eTup (aCons (eTup (aNil)) (aNil))) (aNil))))) (aNil))) (eC (.bool true)))))
def invB (s : ST) : Bool := match s with
  | ⟨[_, some (.obj 0), _, _, _, _, _, _, _, _, _, _, _, _, _], [], [.pen]⟩ => true
  | _ => false
abbrev stI (d0 d2 d3 d4 d5 d6 d7 d8 d9 d10 d11 d12 d13 d14 : Option D) : ST := ⟨[d0, some (.obj 0), d2, d3, d4, d5, d6, d7, d8, d9, d10, d11, d12, d13, d14], [], [.pen]⟩
theorem inv_of {s : ST} (h : invB s = true) : ∃ d0 d2 d3 d4 d5 d6 d7 d8 d9 d10 d11 d12 d13 d14, s = stI d0 d2 d3 d4 d5 d6 d7 d8 d9 d10 d11 d12 d13 d14 := by
  unfold invB at h
  split at h
  · exact ⟨_, _, _, _, _, _, _, _, _, _, _, _, _, _, rfl⟩
  · cases h
def items : Out (List PyData) → List PyData
  | .ok l _ => l
  | _ => []
def s00 : ST := stI none none none none none none none none none none none none none none
def items1 : List PyData := items (fi1 s00)
def items2 : List PyData := items (fi2 s00)
theorem fi1_eq (d0 d2 d3 d4 d5 d6 d7 d8 d9 d10 d11 d12 d13 d14 : Option D) : fi1 (stI d0 d2 d3 d4 d5 d6 d7 d8 d9 d10 d11 d12 d13 d14) = .ok items1 (stI d0 d2 d3 d4 d5 d6 d7 d8 d9 d10 d11 d12 d13 d14) := by kernel_rfl
theorem fi2_eq (d0 d2 d3 d4 d5 d6 d7 d8 d9 d10 d11 d12 d13 d14 : Option D) : fi2 (stI d0 d2 d3 d4 d5 d6 d7 d8 d9 d10 d11 d12 d13 d14) = .ok items2 (stI d0 d2 d3 d4 d5 d6 d7 d8 d9 d10 d11 d12 d13 d14) := by kernel_rfl
theorem good_R (d0 d2 d3 d4 d5 d6 d7 d8 d9 d10 d11 d12 d13 d14 : Option D) : goodB trueF (sR (stI d0 d2 d3 d4 d5 d6 d7 d8 d9 d10 d11 d12 d13 d14)) = true := by kernel_rfl
theorem good_A (ns : List Int) : goodB (nxB invB) (sA ⟨slots N_law.length [.scr ns], [], []⟩) = true := by kernel_rfl
def getY : Out Fl → PyData × PyData × PyData
  | .ok .nx ⟨_ :: _ :: some (.py F) :: some (.py S) :: some (.py M) :: _, _, _⟩ => (F, S, M)
  | _ => (.none, .none, .none)
def x1_0 : PyData := items1.getD 0 .none
def y1_0 : PyData × PyData × PyData := getY (iterD tg1 a1 x1_0 s00)
def x1_1 : PyData := items1.getD 1 .none
def y1_1 : PyData × PyData × PyData := getY (iterD tg1 a1 x1_1 s00)
def x1_2 : PyData := items1.getD 2 .none
def y1_2 : PyData × PyData × PyData := getY (iterD tg1 a1 x1_2 s00)
def x1_3 : PyData := items1.getD 3 .none
def y1_3 : PyData × PyData × PyData := getY (iterD tg1 a1 x1_3 s00)
def x1_4 : PyData := items1.getD 4 .none
def y1_4 : PyData × PyData × PyData := getY (iterD tg1 a1 x1_4 s00)
def x1_5 : PyData := items1.getD 5 .none
def y1_5 : PyData × PyData × PyData := getY (iterD tg1 a1 x1_5 s00)
def x1_6 : PyData := items1.getD 6 .none
def y1_6 : PyData × PyData × PyData := getY (iterD tg1 a1 x1_6 s00)
def x1_7 : PyData := items1.getD 7 .none
def y1_7 : PyData × PyData × PyData := getY (iterD tg1 a1 x1_7 s00)
def x1_8 : PyData := items1.getD 8 .none
def y1_8 : PyData × PyData × PyData := getY (iterD tg1 a1 x1_8 s00)
def x1_9 : PyData := items1.getD 9 .none
def y1_9 : PyData × PyData × PyData := getY (iterD tg1 a1 x1_9 s00)
def x1_10 : PyData := items1.getD 10 .none
def y1_10 : PyData × PyData × PyData := getY (iterD tg1 a1 x1_10 s00)
def x1_11 : PyData := items1.getD 11 .none
def y1_11 : PyData × PyData × PyData := getY (iterD tg1 a1 x1_11 s00)
def x1_12 : PyData := items1.getD 12 .none
def y1_12 : PyData × PyData × PyData := getY (iterD tg1 a1 x1_12 s00)
def x1_13 : PyData := items1.getD 13 .none
def y1_13 : PyData × PyData × PyData := getY (iterD tg1 a1 x1_13 s00)
def x1_14 : PyData := items1.getD 14 .none
def y1_14 : PyData × PyData × PyData := getY (iterD tg1 a1 x1_14 s00)
def x1_15 : PyData := items1.getD 15 .none
def y1_15 : PyData × PyData × PyData := getY (iterD tg1 a1 x1_15 s00)
def x1_16 : PyData := items1.getD 16 .none
def y1_16 : PyData × PyData × PyData := getY (iterD tg1 a1 x1_16 s00)
def x1_17 : PyData := items1.getD 17 .none
def y1_17 : PyData × PyData × PyData := getY (iterD tg1 a1 x1_17 s00)
def x1_18 : PyData := items1.getD 18 .none
def y1_18 : PyData × PyData × PyData := getY (iterD tg1 a1 x1_18 s00)
def x1_19 : PyData := items1.getD 19 .none
def y1_19 : PyData × PyData × PyData := getY (iterD tg1 a1 x1_19 s00)
def x1_20 : PyData := items1.getD 20 .none
def y1_20 : PyData × PyData × PyData := getY (iterD tg1 a1 x1_20 s00)
def x1_21 : PyData := items1.getD 21 .none
def y1_21 : PyData × PyData × PyData := getY (iterD tg1 a1 x1_21 s00)
def x1_22 : PyData := items1.getD 22 .none
def y1_22 : PyData × PyData × PyData := getY (iterD tg1 a1 x1_22 s00)
def x1_23 : PyData := items1.getD 23 .none
def y1_23 : PyData × PyData × PyData := getY (iterD tg1 a1 x1_23 s00)
def x1_24 : PyData := items1.getD 24 .none
def y1_24 : PyData × PyData × PyData := getY (iterD tg1 a1 x1_24 s00)
def x1_25 : PyData := items1.getD 25 .none
def y1_25 : PyData × PyData × PyData := getY (iterD tg1 a1 x1_25 s00)
def x1_26 : PyData := items1.getD 26 .none
def y1_26 : PyData × PyData × PyData := getY (iterD tg1 a1 x1_26 s00)
def x1_27 : PyData := items1.getD 27 .none
def y1_27 : PyData × PyData × PyData := getY (iterD tg1 a1 x1_27 s00)
def x1_28 : PyData := items1.getD 28 .none
def y1_28 : PyData × PyData × PyData := getY (iterD tg1 a1 x1_28 s00)
def x1_29 : PyData := items1.getD 29 .none
def y1_29 : PyData × PyData × PyData := getY (iterD tg1 a1 x1_29 s00)
def x1_30 : PyData := items1.getD 30 .none
def y1_30 : PyData × PyData × PyData := getY (iterD tg1 a1 x1_30 s00)
def x1_31 : PyData := items1.getD 31 .none
def y1_31 : PyData × PyData × PyData := getY (iterD tg1 a1 x1_31 s00)
def x1_32 : PyData := items1.getD 32 .none
def y1_32 : PyData × PyData × PyData := getY (iterD tg1 a1 x1_32 s00)
def x1_33 : PyData := items1.getD 33 .none
def y1_33 : PyData × PyData × PyData := getY (iterD tg1 a1 x1_33 s00)
def x1_34 : PyData := items1.getD 34 .none
def y1_34 : PyData × PyData × PyData := getY (iterD tg1 a1 x1_34 s00)
def x1_35 : PyData := items1.getD 35 .none
def y1_35 : PyData × PyData × PyData := getY (iterD tg1 a1 x1_35 s00)
def x1_36 : PyData := items1.getD 36 .none
def y1_36 : PyData × PyData × PyData := getY (iterD tg1 a1 x1_36 s00)
def x1_37 : PyData := items1.getD 37 .none
def y1_37 : PyData × PyData × PyData := getY (iterD tg1 a1 x1_37 s00)
def x1_38 : PyData := items1.getD 38 .none
def y1_38 : PyData × PyData × PyData := getY (iterD tg1 a1 x1_38 s00)
def x1_39 : PyData := items1.getD 39 .none
def y1_39 : PyData × PyData × PyData := getY (iterD tg1 a1 x1_39 s00)
def x1_40 : PyData := items1.getD 40 .none
def y1_40 : PyData × PyData × PyData := getY (iterD tg1 a1 x1_40 s00)
def x1_41 : PyData := items1.getD 41 .none
def y1_41 : PyData × PyData × PyData := getY (iterD tg1 a1 x1_41 s00)
def x1_42 : PyData := items1.getD 42 .none
def y1_42 : PyData × PyData × PyData := getY (iterD tg1 a1 x1_42 s00)
def x1_43 : PyData := items1.getD 43 .none
def y1_43 : PyData × PyData × PyData := getY (iterD tg1 a1 x1_43 s00)
def x1_44 : PyData := items1.getD 44 .none
def y1_44 : PyData × PyData × PyData := getY (iterD tg1 a1 x1_44 s00)
def x1_45 : PyData := items1.getD 45 .none
def y1_45 : PyData × PyData × PyData := getY (iterD tg1 a1 x1_45 s00)
def x1_46 : PyData := items1.getD 46 .none
def y1_46 : PyData × PyData × PyData := getY (iterD tg1 a1 x1_46 s00)
def x2_0 : PyData := items2.getD 0 .none
def x2_1 : PyData := items2.getD 1 .none
def x2_2 : PyData := items2.getD 2 .none
def x2_3 : PyData := items2.getD 3 .none
def x2_4 : PyData := items2.getD 4 .none
def x2_5 : PyData := items2.getD 5 .none
def x2_6 : PyData := items2.getD 6 .none
def x2_7 : PyData := items2.getD 7 .none
def x2_8 : PyData := items2.getD 8 .none
def x2_9 : PyData := items2.getD 9 .none
def x2_10 : PyData := items2.getD 10 .none
def x2_11 : PyData := items2.getD 11 .none
def x2_12 : PyData := items2.getD 12 .none
def x2_13 : PyData := items2.getD 13 .none
def x2_14 : PyData := items2.getD 14 .none
def x2_15 : PyData := items2.getD 15 .none
theorem items1_eq : items1 = [x1_0, x1_1, x1_2, x1_3, x1_4, x1_5, x1_6, x1_7, x1_8, x1_9, x1_10, x1_11, x1_12, x1_13, x1_14, x1_15, x1_16, x1_17, x1_18, x1_19, x1_20, x1_21, x1_22, x1_23, x1_24, x1_25, x1_26, x1_27, x1_28, x1_29, x1_30, x1_31, x1_32, x1_33, x1_34, x1_35, x1_36, x1_37, x1_38, x1_39, x1_40, x1_41, x1_42, x1_43, x1_44, x1_45, x1_46] := by kernel_rfl
theorem items2_eq : items2 = [x2_0, x2_1, x2_2, x2_3, x2_4, x2_5, x2_6, x2_7, x2_8, x2_9, x2_10, x2_11, x2_12, x2_13, x2_14, x2_15] := by kernel_rfl
theorem a5_eq (p : Fl → ST → Bool) (F S M : PyData) (d0 d2 d3 d4 d5 d6 d7 d8 d9 d10 d11 d12 d13 d14 : Option D) : goodB p (a5 (stI d0 (some (.py F)) (some (.py S)) (some (.py M)) d5 d6 d7 d8 d9 d10 d11 d12 d13 d14)) = (p .nx (stI d0 (some (.py F)) (some (.py S)) (some (.py M)) (some (.py (.list [.tuple [F, S, M]]))) d6 d7 d8 d9 d10 d11 d12 d13 d14) && (p .nx (stI d0 (some (.py F)) (some (.py S)) (some (.py M)) (some (.py (.list []))) d6 d7 d8 d9 d10 d11 d12 d13 d14) && true)) := by kernel_rfl
theorem item1 {x F S M : PyData} (h1 : ∀ (d0 d2 d3 d4 d5 d6 d7 d8 d9 d10 d11 d12 d13 d14 : Option D), iterD tg1 a1 x (stI d0 d2 d3 d4 d5 d6 d7 d8 d9 d10 d11 d12 d13 d14) = .ok .nx (stI d0 (some (.py F)) (some (.py S)) (some (.py M)) d5 d6 d7 d8 d9 d10 d11 d12 d13 d14))
    (ho : ∀ (d0 d2 d3 d4 d5 d6 d7 d8 d9 d10 d11 d12 d13 d14 : Option D), goodB (nxB invB) (iterD tgI bdI (.tuple [F, S, M]) (stI d0 d2 d3 d4 d5 d6 d7 d8 d9 d10 d11 d12 d13 d14)) = true)
    (ht : ∀ (d0 d2 d3 d4 d5 d6 d7 d8 d9 d10 d11 d12 d13 d14 : Option D) (e0 e2 e3 e4 e5 e6 e7 e8 e9 e10 e11 e12 e13 e14 : Option D), goodB (tchkG invB tgI bdI (stI e0 e2 e3 e4 e5 e6 e7 e8 e9 e10 e11 e12 e13 e14)) (fT (stI d0 (some (.py F)) (some (.py S)) (some (.py M)) d5 d6 d7 d8 d9 d10 d11 d12 d13 d14)) = true) : ItemOk invB tg1 bd1 x := by
  show ItemOk invB tg1 (sSeq a1 (sSeq a5 (sFor (iSeq (eBin gAdd (eVar 5) (eLst (aCons fT aNil)))) tgI bdI))) x
  refine item_gen (j := 5) (c := .tuple [F, S, M]) (s00 := s00) rfl (fun s hs => ?_) (fun e he => ?_)
  · obtain ⟨d0, d2, d3, d4, d5, d6, d7, d8, d9, d10, d11, d12, d13, d14, rfl⟩ := inv_of hs
    exact ⟨(stI d0 (some (.py F)) (some (.py S)) (some (.py M)) d5 d6 d7 d8 d9 d10 d11 d12 d13 d14), (stI d0 (some (.py F)) (some (.py S)) (some (.py M)) (some (.py (.list [.tuple [F, S, M]]))) d6 d7 d8 d9 d10 d11 d12 d13 d14), (stI d0 (some (.py F)) (some (.py S)) (some (.py M)) (some (.py (.list []))) d6 d7 d8 d9 d10 d11 d12 d13 d14), h1 d0 d2 d3 d4 d5 d6 d7 d8 d9 d10 d11 d12 d13 d14, fun p => a5_eq p F S M d0 d2 d3 d4 d5 d6 d7 d8 d9 d10 d11 d12 d13 d14, rfl, rfl,
      fun e he => by
        obtain ⟨e0, e2, e3, e4, e5, e6, e7, e8, e9, e10, e11, e12, e13, e14, rfl⟩ := inv_of he
        exact ht d0 d2 d3 d4 (some (.py (.list [.tuple [F, S, M]]))) d6 d7 d8 d9 d10 d11 d12 d13 d14 e0 e2 e3 e4 e5 e6 e7 e8 e9 e10 e11 e12 e13 e14,
      fun e he => by
        obtain ⟨e0, e2, e3, e4, e5, e6, e7, e8, e9, e10, e11, e12, e13, e14, rfl⟩ := inv_of he
        exact ht d0 d2 d3 d4 (some (.py (.list []))) d6 d7 d8 d9 d10 d11 d12 d13 d14 e0 e2 e3 e4 e5 e6 e7 e8 e9 e10 e11 e12 e13 e14⟩
  · obtain ⟨e0, e2, e3, e4, e5, e6, e7, e8, e9, e10, e11, e12, e13, e14, rfl⟩ := inv_of he
    exact ho e0 e2 e3 e4 e5 e6 e7 e8 e9 e10 e11 e12 e13 e14
end Lw

set_option Elab.async false
set_option linter.all false
set_option maxRecDepth 1000000
set_option maxHeartbeats 0
namespace Lw
open PySem PySem.Spec PyProof.Rows L2 DL
theorem h1_0 (d0 d2 d3 d4 d5 d6 d7 d8 d9 d10 d11 d12 d13 d14 : Option D) : iterD tg1 a1 x1_0 (stI d0 d2 d3 d4 d5 d6 d7 d8 d9 d10 d11 d12 d13 d14) = .ok .nx (stI d0 (some (.py y1_0.1)) (some (.py y1_0.2.1)) (some (.py y1_0.2.2)) d5 d6 d7 d8 d9 d10 d11 d12 d13 d14) := by kernel_rfl
theorem o1_0 (d0 d2 d3 d4 d5 d6 d7 d8 d9 d10 d11 d12 d13 d14 : Option D) : goodB (nxB invB) (iterD tgI bdI (.tuple [y1_0.1, y1_0.2.1, y1_0.2.2]) (stI d0 d2 d3 d4 d5 d6 d7 d8 d9 d10 d11 d12 d13 d14)) = true := by kernel_rfl
theorem t1_0 (d0 d2 d3 d4 d5 d6 d7 d8 d9 d10 d11 d12 d13 d14 : Option D) (e0 e2 e3 e4 e5 e6 e7 e8 e9 e10 e11 e12 e13 e14 : Option D) : goodB (tchkG invB tgI bdI (stI e0 e2 e3 e4 e5 e6 e7 e8 e9 e10 e11 e12 e13 e14)) (fT (stI d0 (some (.py y1_0.1)) (some (.py y1_0.2.1)) (some (.py y1_0.2.2)) d5 d6 d7 d8 d9 d10 d11 d12 d13 d14)) = true := by kernel_rfl
theorem i1_0 : ItemOk invB tg1 bd1 x1_0 := item1 h1_0 o1_0 t1_0
theorem h1_6 (d0 d2 d3 d4 d5 d6 d7 d8 d9 d10 d11 d12 d13 d14 : Option D) : iterD tg1 a1 x1_6 (stI d0 d2 d3 d4 d5 d6 d7 d8 d9 d10 d11 d12 d13 d14) = .ok .nx (stI d0 (some (.py y1_6.1)) (some (.py y1_6.2.1)) (some (.py y1_6.2.2)) d5 d6 d7 d8 d9 d10 d11 d12 d13 d14) := by kernel_rfl
theorem o1_6 (d0 d2 d3 d4 d5 d6 d7 d8 d9 d10 d11 d12 d13 d14 : Option D) : goodB (nxB invB) (iterD tgI bdI (.tuple [y1_6.1, y1_6.2.1, y1_6.2.2]) (stI d0 d2 d3 d4 d5 d6 d7 d8 d9 d10 d11 d12 d13 d14)) = true := by kernel_rfl
theorem t1_6 (d0 d2 d3 d4 d5 d6 d7 d8 d9 d10 d11 d12 d13 d14 : Option D) (e0 e2 e3 e4 e5 e6 e7 e8 e9 e10 e11 e12 e13 e14 : Option D) : goodB (tchkG invB tgI bdI (stI e0 e2 e3 e4 e5 e6 e7 e8 e9 e10 e11 e12 e13 e14)) (fT (stI d0 (some (.py y1_6.1)) (some (.py y1_6.2.1)) (some (.py y1_6.2.2)) d5 d6 d7 d8 d9 d10 d11 d12 d13 d14)) = true := by kernel_rfl
theorem i1_6 : ItemOk invB tg1 bd1 x1_6 := item1 h1_6 o1_6 t1_6
theorem h1_12 (d0 d2 d3 d4 d5 d6 d7 d8 d9 d10 d11 d12 d13 d14 : Option D) : iterD tg1 a1 x1_12 (stI d0 d2 d3 d4 d5 d6 d7 d8 d9 d10 d11 d12 d13 d14) = .ok .nx (stI d0 (some (.py y1_12.1)) (some (.py y1_12.2.1)) (some (.py y1_12.2.2)) d5 d6 d7 d8 d9 d10 d11 d12 d13 d14) := by kernel_rfl
theorem o1_12 (d0 d2 d3 d4 d5 d6 d7 d8 d9 d10 d11 d12 d13 d14 : Option D) : goodB (nxB invB) (iterD tgI bdI (.tuple [y1_12.1, y1_12.2.1, y1_12.2.2]) (stI d0 d2 d3 d4 d5 d6 d7 d8 d9 d10 d11 d12 d13 d14)) = true := by kernel_rfl
theorem t1_12 (d0 d2 d3 d4 d5 d6 d7 d8 d9 d10 d11 d12 d13 d14 : Option D) (e0 e2 e3 e4 e5 e6 e7 e8 e9 e10 e11 e12 e13 e14 : Option D) : goodB (tchkG invB tgI bdI (stI e0 e2 e3 e4 e5 e6 e7 e8 e9 e10 e11 e12 e13 e14)) (fT (stI d0 (some (.py y1_12.1)) (some (.py y1_12.2.1)) (some (.py y1_12.2.2)) d5 d6 d7 d8 d9 d10 d11 d12 d13 d14)) = true := by kernel_rfl
theorem i1_12 : ItemOk invB tg1 bd1 x1_12 := item1 h1_12 o1_12 t1_12
theorem h1_18 (d0 d2 d3 d4 d5 d6 d7 d8 d9 d10 d11 d12 d13 d14 : Option D) : iterD tg1 a1 x1_18 (stI d0 d2 d3 d4 d5 d6 d7 d8 d9 d10 d11 d12 d13 d14) = .ok .nx (stI d0 (some (.py y1_18.1)) (some (.py y1_18.2.1)) (some (.py y1_18.2.2)) d5 d6 d7 d8 d9 d10 d11 d12 d13 d14) := by kernel_rfl
theorem o1_18 (d0 d2 d3 d4 d5 d6 d7 d8 d9 d10 d11 d12 d13 d14 : Option D) : goodB (nxB invB) (iterD tgI bdI (.tuple [y1_18.1, y1_18.2.1, y1_18.2.2]) (stI d0 d2 d3 d4 d5 d6 d7 d8 d9 d10 d11 d12 d13 d14)) = true := by kernel_rfl
theorem t1_18 (d0 d2 d3 d4 d5 d6 d7 d8 d9 d10 d11 d12 d13 d14 : Option D) (e0 e2 e3 e4 e5 e6 e7 e8 e9 e10 e11 e12 e13 e14 : Option D) : goodB (tchkG invB tgI bdI (stI e0 e2 e3 e4 e5 e6 e7 e8 e9 e10 e11 e12 e13 e14)) (fT (stI d0 (some (.py y1_18.1)) (some (.py y1_18.2.1)) (some (.py y1_18.2.2)) d5 d6 d7 d8 d9 d10 d11 d12 d13 d14)) = true := by kernel_rfl
theorem i1_18 : ItemOk invB tg1 bd1 x1_18 := item1 h1_18 o1_18 t1_18
theorem h1_24 (d0 d2 d3 d4 d5 d6 d7 d8 d9 d10 d11 d12 d13 d14 : Option D) : iterD tg1 a1 x1_24 (stI d0 d2 d3 d4 d5 d6 d7 d8 d9 d10 d11 d12 d13 d14) = .ok .nx (stI d0 (some (.py y1_24.1)) (some (.py y1_24.2.1)) (some (.py y1_24.2.2)) d5 d6 d7 d8 d9 d10 d11 d12 d13 d14) := by kernel_rfl
theorem o1_24 (d0 d2 d3 d4 d5 d6 d7 d8 d9 d10 d11 d12 d13 d14 : Option D) : goodB (nxB invB) (iterD tgI bdI (.tuple [y1_24.1, y1_24.2.1, y1_24.2.2]) (stI d0 d2 d3 d4 d5 d6 d7 d8 d9 d10 d11 d12 d13 d14)) = true := by kernel_rfl
theorem t1_24 (d0 d2 d3 d4 d5 d6 d7 d8 d9 d10 d11 d12 d13 d14 : Option D) (e0 e2 e3 e4 e5 e6 e7 e8 e9 e10 e11 e12 e13 e14 : Option D) : goodB (tchkG invB tgI bdI (stI e0 e2 e3 e4 e5 e6 e7 e8 e9 e10 e11 e12 e13 e14)) (fT (stI d0 (some (.py y1_24.1)) (some (.py y1_24.2.1)) (some (.py y1_24.2.2)) d5 d6 d7 d8 d9 d10 d11 d12 d13 d14)) = true := by kernel_rfl
theorem i1_24 : ItemOk invB tg1 bd1 x1_24 := item1 h1_24 o1_24 t1_24
theorem h1_30 (d0 d2 d3 d4 d5 d6 d7 d8 d9 d10 d11 d12 d13 d14 : Option D) : iterD tg1 a1 x1_30 (stI d0 d2 d3 d4 d5 d6 d7 d8 d9 d10 d11 d12 d13 d14) = .ok .nx (stI d0 (some (.py y1_30.1)) (some (.py y1_30.2.1)) (some (.py y1_30.2.2)) d5 d6 d7 d8 d9 d10 d11 d12 d13 d14) := by kernel_rfl
theorem o1_30 (d0 d2 d3 d4 d5 d6 d7 d8 d9 d10 d11 d12 d13 d14 : Option D) : goodB (nxB invB) (iterD tgI bdI (.tuple [y1_30.1, y1_30.2.1, y1_30.2.2]) (stI d0 d2 d3 d4 d5 d6 d7 d8 d9 d10 d11 d12 d13 d14)) = true := by kernel_rfl
theorem t1_30 (d0 d2 d3 d4 d5 d6 d7 d8 d9 d10 d11 d12 d13 d14 : Option D) (e0 e2 e3 e4 e5 e6 e7 e8 e9 e10 e11 e12 e13 e14 : Option D) : goodB (tchkG invB tgI bdI (stI e0 e2 e3 e4 e5 e6 e7 e8 e9 e10 e11 e12 e13 e14)) (fT (stI d0 (some (.py y1_30.1)) (some (.py y1_30.2.1)) (some (.py y1_30.2.2)) d5 d6 d7 d8 d9 d10 d11 d12 d13 d14)) = true := by kernel_rfl
theorem i1_30 : ItemOk invB tg1 bd1 x1_30 := item1 h1_30 o1_30 t1_30
theorem h1_36 (d0 d2 d3 d4 d5 d6 d7 d8 d9 d10 d11 d12 d13 d14 : Option D) : iterD tg1 a1 x1_36 (stI d0 d2 d3 d4 d5 d6 d7 d8 d9 d10 d11 d12 d13 d14) = .ok .nx (stI d0 (some (.py y1_36.1)) (some (.py y1_36.2.1)) (some (.py y1_36.2.2)) d5 d6 d7 d8 d9 d10 d11 d12 d13 d14) := by kernel_rfl
theorem o1_36 (d0 d2 d3 d4 d5 d6 d7 d8 d9 d10 d11 d12 d13 d14 : Option D) : goodB (nxB invB) (iterD tgI bdI (.tuple [y1_36.1, y1_36.2.1, y1_36.2.2]) (stI d0 d2 d3 d4 d5 d6 d7 d8 d9 d10 d11 d12 d13 d14)) = true := by kernel_rfl
theorem t1_36 (d0 d2 d3 d4 d5 d6 d7 d8 d9 d10 d11 d12 d13 d14 : Option D) (e0 e2 e3 e4 e5 e6 e7 e8 e9 e10 e11 e12 e13 e14 : Option D) : goodB (tchkG invB tgI bdI (stI e0 e2 e3 e4 e5 e6 e7 e8 e9 e10 e11 e12 e13 e14)) (fT (stI d0 (some (.py y1_36.1)) (some (.py y1_36.2.1)) (some (.py y1_36.2.2)) d5 d6 d7 d8 d9 d10 d11 d12 d13 d14)) = true := by kernel_rfl
theorem i1_36 : ItemOk invB tg1 bd1 x1_36 := item1 h1_36 o1_36 t1_36
theorem h1_42 (d0 d2 d3 d4 d5 d6 d7 d8 d9 d10 d11 d12 d13 d14 : Option D) : iterD tg1 a1 x1_42 (stI d0 d2 d3 d4 d5 d6 d7 d8 d9 d10 d11 d12 d13 d14) = .ok .nx (stI d0 (some (.py y1_42.1)) (some (.py y1_42.2.1)) (some (.py y1_42.2.2)) d5 d6 d7 d8 d9 d10 d11 d12 d13 d14) := by kernel_rfl
theorem o1_42 (d0 d2 d3 d4 d5 d6 d7 d8 d9 d10 d11 d12 d13 d14 : Option D) : goodB (nxB invB) (iterD tgI bdI (.tuple [y1_42.1, y1_42.2.1, y1_42.2.2]) (stI d0 d2 d3 d4 d5 d6 d7 d8 d9 d10 d11 d12 d13 d14)) = true := by kernel_rfl
theorem t1_42 (d0 d2 d3 d4 d5 d6 d7 d8 d9 d10 d11 d12 d13 d14 : Option D) (e0 e2 e3 e4 e5 e6 e7 e8 e9 e10 e11 e12 e13 e14 : Option D) : goodB (tchkG invB tgI bdI (stI e0 e2 e3 e4 e5 e6 e7 e8 e9 e10 e11 e12 e13 e14)) (fT (stI d0 (some (.py y1_42.1)) (some (.py y1_42.2.1)) (some (.py y1_42.2.2)) d5 d6 d7 d8 d9 d10 d11 d12 d13 d14)) = true := by kernel_rfl
theorem i1_42 : ItemOk invB tg1 bd1 x1_42 := item1 h1_42 o1_42 t1_42
theorem c2_1 (d0 d2 d3 d4 d5 d6 d7 d8 d9 d10 d11 d12 d13 d14 : Option D) : goodB (nxB invB) (iterD tg2 bd2 x2_1 (stI d0 d2 d3 d4 d5 d6 d7 d8 d9 d10 d11 d12 d13 d14)) = true := by kernel_rfl
theorem i2_1 : ItemOk invB tg2 bd2 x2_1 := fun s hs => by
  obtain ⟨d0, d2, d3, d4, d5, d6, d7, d8, d9, d10, d11, d12, d13, d14, rfl⟩ := inv_of hs
  exact c2_1 d0 d2 d3 d4 d5 d6 d7 d8 d9 d10 d11 d12 d13 d14
theorem c2_7 (d0 d2 d3 d4 d5 d6 d7 d8 d9 d10 d11 d12 d13 d14 : Option D) : goodB (nxB invB) (iterD tg2 bd2 x2_7 (stI d0 d2 d3 d4 d5 d6 d7 d8 d9 d10 d11 d12 d13 d14)) = true := by kernel_rfl
theorem i2_7 : ItemOk invB tg2 bd2 x2_7 := fun s hs => by
  obtain ⟨d0, d2, d3, d4, d5, d6, d7, d8, d9, d10, d11, d12, d13, d14, rfl⟩ := inv_of hs
  exact c2_7 d0 d2 d3 d4 d5 d6 d7 d8 d9 d10 d11 d12 d13 d14
theorem c2_13 (d0 d2 d3 d4 d5 d6 d7 d8 d9 d10 d11 d12 d13 d14 : Option D) : goodB (nxB invB) (iterD tg2 bd2 x2_13 (stI d0 d2 d3 d4 d5 d6 d7 d8 d9 d10 d11 d12 d13 d14)) = true := by kernel_rfl
theorem i2_13 : ItemOk invB tg2 bd2 x2_13 := fun s hs => by
  obtain ⟨d0, d2, d3, d4, d5, d6, d7, d8, d9, d10, d11, d12, d13, d14, rfl⟩ := inv_of hs
  exact c2_13 d0 d2 d3 d4 d5 d6 d7 d8 d9 d10 d11 d12 d13 d14
end Lw

set_option Elab.async false
set_option linter.all false
set_option maxRecDepth 1000000
set_option maxHeartbeats 0
namespace Lw
open PySem PySem.Spec PyProof.Rows L2 DL
theorem h1_1 (d0 d2 d3 d4 d5 d6 d7 d8 d9 d10 d11 d12 d13 d14 : Option D) : iterD tg1 a1 x1_1 (stI d0 d2 d3 d4 d5 d6 d7 d8 d9 d10 d11 d12 d13 d14) = .ok .nx (stI d0 (some (.py y1_1.1)) (some (.py y1_1.2.1)) (some (.py y1_1.2.2)) d5 d6 d7 d8 d9 d10 d11 d12 d13 d14) := by kernel_rfl
theorem o1_1 (d0 d2 d3 d4 d5 d6 d7 d8 d9 d10 d11 d12 d13 d14 : Option D) : goodB (nxB invB) (iterD tgI bdI (.tuple [y1_1.1, y1_1.2.1, y1_1.2.2]) (stI d0 d2 d3 d4 d5 d6 d7 d8 d9 d10 d11 d12 d13 d14)) = true := by kernel_rfl
theorem t1_1 (d0 d2 d3 d4 d5 d6 d7 d8 d9 d10 d11 d12 d13 d14 : Option D) (e0 e2 e3 e4 e5 e6 e7 e8 e9 e10 e11 e12 e13 e14 : Option D) : goodB (tchkG invB tgI bdI (stI e0 e2 e3 e4 e5 e6 e7 e8 e9 e10 e11 e12 e13 e14)) (fT (stI d0 (some (.py y1_1.1)) (some (.py y1_1.2.1)) (some (.py y1_1.2.2)) d5 d6 d7 d8 d9 d10 d11 d12 d13 d14)) = true := by kernel_rfl
theorem i1_1 : ItemOk invB tg1 bd1 x1_1 := item1 h1_1 o1_1 t1_1
theorem h1_7 (d0 d2 d3 d4 d5 d6 d7 d8 d9 d10 d11 d12 d13 d14 : Option D) : iterD tg1 a1 x1_7 (stI d0 d2 d3 d4 d5 d6 d7 d8 d9 d10 d11 d12 d13 d14) = .ok .nx (stI d0 (some (.py y1_7.1)) (some (.py y1_7.2.1)) (some (.py y1_7.2.2)) d5 d6 d7 d8 d9 d10 d11 d12 d13 d14) := by kernel_rfl
theorem o1_7 (d0 d2 d3 d4 d5 d6 d7 d8 d9 d10 d11 d12 d13 d14 : Option D) : goodB (nxB invB) (iterD tgI bdI (.tuple [y1_7.1, y1_7.2.1, y1_7.2.2]) (stI d0 d2 d3 d4 d5 d6 d7 d8 d9 d10 d11 d12 d13 d14)) = true := by kernel_rfl
theorem t1_7 (d0 d2 d3 d4 d5 d6 d7 d8 d9 d10 d11 d12 d13 d14 : Option D) (e0 e2 e3 e4 e5 e6 e7 e8 e9 e10 e11 e12 e13 e14 : Option D) : goodB (tchkG invB tgI bdI (stI e0 e2 e3 e4 e5 e6 e7 e8 e9 e10 e11 e12 e13 e14)) (fT (stI d0 (some (.py y1_7.1)) (some (.py y1_7.2.1)) (some (.py y1_7.2.2)) d5 d6 d7 d8 d9 d10 d11 d12 d13 d14)) = true := by kernel_rfl
theorem i1_7 : ItemOk invB tg1 bd1 x1_7 := item1 h1_7 o1_7 t1_7
theorem h1_13 (d0 d2 d3 d4 d5 d6 d7 d8 d9 d10 d11 d12 d13 d14 : Option D) : iterD tg1 a1 x1_13 (stI d0 d2 d3 d4 d5 d6 d7 d8 d9 d10 d11 d12 d13 d14) = .ok .nx (stI d0 (some (.py y1_13.1)) (some (.py y1_13.2.1)) (some (.py y1_13.2.2)) d5 d6 d7 d8 d9 d10 d11 d12 d13 d14) := by kernel_rfl
theorem o1_13 (d0 d2 d3 d4 d5 d6 d7 d8 d9 d10 d11 d12 d13 d14 : Option D) : goodB (nxB invB) (iterD tgI bdI (.tuple [y1_13.1, y1_13.2.1, y1_13.2.2]) (stI d0 d2 d3 d4 d5 d6 d7 d8 d9 d10 d11 d12 d13 d14)) = true := by kernel_rfl
theorem t1_13 (d0 d2 d3 d4 d5 d6 d7 d8 d9 d10 d11 d12 d13 d14 : Option D) (e0 e2 e3 e4 e5 e6 e7 e8 e9 e10 e11 e12 e13 e14 : Option D) : goodB (tchkG invB tgI bdI (stI e0 e2 e3 e4 e5 e6 e7 e8 e9 e10 e11 e12 e13 e14)) (fT (stI d0 (some (.py y1_13.1)) (some (.py y1_13.2.1)) (some (.py y1_13.2.2)) d5 d6 d7 d8 d9 d10 d11 d12 d13 d14)) = true := by kernel_rfl
theorem i1_13 : ItemOk invB tg1 bd1 x1_13 := item1 h1_13 o1_13 t1_13
theorem h1_19 (d0 d2 d3 d4 d5 d6 d7 d8 d9 d10 d11 d12 d13 d14 : Option D) : iterD tg1 a1 x1_19 (stI d0 d2 d3 d4 d5 d6 d7 d8 d9 d10 d11 d12 d13 d14) = .ok .nx (stI d0 (some (.py y1_19.1)) (some (.py y1_19.2.1)) (some (.py y1_19.2.2)) d5 d6 d7 d8 d9 d10 d11 d12 d13 d14) := by kernel_rfl
theorem o1_19 (d0 d2 d3 d4 d5 d6 d7 d8 d9 d10 d11 d12 d13 d14 : Option D) : goodB (nxB invB) (iterD tgI bdI (.tuple [y1_19.1, y1_19.2.1, y1_19.2.2]) (stI d0 d2 d3 d4 d5 d6 d7 d8 d9 d10 d11 d12 d13 d14)) = true := by kernel_rfl
theorem t1_19 (d0 d2 d3 d4 d5 d6 d7 d8 d9 d10 d11 d12 d13 d14 : Option D) (e0 e2 e3 e4 e5 e6 e7 e8 e9 e10 e11 e12 e13 e14 : Option D) : goodB (tchkG invB tgI bdI (stI e0 e2 e3 e4 e5 e6 e7 e8 e9 e10 e11 e12 e13 e14)) (fT (stI d0 (some (.py y1_19.1)) (some (.py y1_19.2.1)) (some (.py y1_19.2.2)) d5 d6 d7 d8 d9 d10 d11 d12 d13 d14)) = true := by kernel_rfl
theorem i1_19 : ItemOk invB tg1 bd1 x1_19 := item1 h1_19 o1_19 t1_19
theorem h1_25 (d0 d2 d3 d4 d5 d6 d7 d8 d9 d10 d11 d12 d13 d14 : Option D) : iterD tg1 a1 x1_25 (stI d0 d2 d3 d4 d5 d6 d7 d8 d9 d10 d11 d12 d13 d14) = .ok .nx (stI d0 (some (.py y1_25.1)) (some (.py y1_25.2.1)) (some (.py y1_25.2.2)) d5 d6 d7 d8 d9 d10 d11 d12 d13 d14) := by kernel_rfl
theorem o1_25 (d0 d2 d3 d4 d5 d6 d7 d8 d9 d10 d11 d12 d13 d14 : Option D) : goodB (nxB invB) (iterD tgI bdI (.tuple [y1_25.1, y1_25.2.1, y1_25.2.2]) (stI d0 d2 d3 d4 d5 d6 d7 d8 d9 d10 d11 d12 d13 d14)) = true := by kernel_rfl
theorem t1_25 (d0 d2 d3 d4 d5 d6 d7 d8 d9 d10 d11 d12 d13 d14 : Option D) (e0 e2 e3 e4 e5 e6 e7 e8 e9 e10 e11 e12 e13 e14 : Option D) : goodB (tchkG invB tgI bdI (stI e0 e2 e3 e4 e5 e6 e7 e8 e9 e10 e11 e12 e13 e14)) (fT (stI d0 (some (.py y1_25.1)) (some (.py y1_25.2.1)) (some (.py y1_25.2.2)) d5 d6 d7 d8 d9 d10 d11 d12 d13 d14)) = true := by kernel_rfl
theorem i1_25 : ItemOk invB tg1 bd1 x1_25 := item1 h1_25 o1_25 t1_25
theorem h1_31 (d0 d2 d3 d4 d5 d6 d7 d8 d9 d10 d11 d12 d13 d14 : Option D) : iterD tg1 a1 x1_31 (stI d0 d2 d3 d4 d5 d6 d7 d8 d9 d10 d11 d12 d13 d14) = .ok .nx (stI d0 (some (.py y1_31.1)) (some (.py y1_31.2.1)) (some (.py y1_31.2.2)) d5 d6 d7 d8 d9 d10 d11 d12 d13 d14) := by kernel_rfl
theorem o1_31 (d0 d2 d3 d4 d5 d6 d7 d8 d9 d10 d11 d12 d13 d14 : Option D) : goodB (nxB invB) (iterD tgI bdI (.tuple [y1_31.1, y1_31.2.1, y1_31.2.2]) (stI d0 d2 d3 d4 d5 d6 d7 d8 d9 d10 d11 d12 d13 d14)) = true := by kernel_rfl
theorem t1_31 (d0 d2 d3 d4 d5 d6 d7 d8 d9 d10 d11 d12 d13 d14 : Option D) (e0 e2 e3 e4 e5 e6 e7 e8 e9 e10 e11 e12 e13 e14 : Option D) : goodB (tchkG invB tgI bdI (stI e0 e2 e3 e4 e5 e6 e7 e8 e9 e10 e11 e12 e13 e14)) (fT (stI d0 (some (.py y1_31.1)) (some (.py y1_31.2.1)) (some (.py y1_31.2.2)) d5 d6 d7 d8 d9 d10 d11 d12 d13 d14)) = true := by kernel_rfl
theorem i1_31 : ItemOk invB tg1 bd1 x1_31 := item1 h1_31 o1_31 t1_31
theorem h1_37 (d0 d2 d3 d4 d5 d6 d7 d8 d9 d10 d11 d12 d13 d14 : Option D) : iterD tg1 a1 x1_37 (stI d0 d2 d3 d4 d5 d6 d7 d8 d9 d10 d11 d12 d13 d14) = .ok .nx (stI d0 (some (.py y1_37.1)) (some (.py y1_37.2.1)) (some (.py y1_37.2.2)) d5 d6 d7 d8 d9 d10 d11 d12 d13 d14) := by kernel_rfl
theorem o1_37 (d0 d2 d3 d4 d5 d6 d7 d8 d9 d10 d11 d12 d13 d14 : Option D) : goodB (nxB invB) (iterD tgI bdI (.tuple [y1_37.1, y1_37.2.1, y1_37.2.2]) (stI d0 d2 d3 d4 d5 d6 d7 d8 d9 d10 d11 d12 d13 d14)) = true := by kernel_rfl
theorem t1_37 (d0 d2 d3 d4 d5 d6 d7 d8 d9 d10 d11 d12 d13 d14 : Option D) (e0 e2 e3 e4 e5 e6 e7 e8 e9 e10 e11 e12 e13 e14 : Option D) : goodB (tchkG invB tgI bdI (stI e0 e2 e3 e4 e5 e6 e7 e8 e9 e10 e11 e12 e13 e14)) (fT (stI d0 (some (.py y1_37.1)) (some (.py y1_37.2.1)) (some (.py y1_37.2.2)) d5 d6 d7 d8 d9 d10 d11 d12 d13 d14)) = true := by kernel_rfl
theorem i1_37 : ItemOk invB tg1 bd1 x1_37 := item1 h1_37 o1_37 t1_37
theorem h1_43 (d0 d2 d3 d4 d5 d6 d7 d8 d9 d10 d11 d12 d13 d14 : Option D) : iterD tg1 a1 x1_43 (stI d0 d2 d3 d4 d5 d6 d7 d8 d9 d10 d11 d12 d13 d14) = .ok .nx (stI d0 (some (.py y1_43.1)) (some (.py y1_43.2.1)) (some (.py y1_43.2.2)) d5 d6 d7 d8 d9 d10 d11 d12 d13 d14) := by kernel_rfl
theorem o1_43 (d0 d2 d3 d4 d5 d6 d7 d8 d9 d10 d11 d12 d13 d14 : Option D) : goodB (nxB invB) (iterD tgI bdI (.tuple [y1_43.1, y1_43.2.1, y1_43.2.2]) (stI d0 d2 d3 d4 d5 d6 d7 d8 d9 d10 d11 d12 d13 d14)) = true := by kernel_rfl
theorem t1_43 (d0 d2 d3 d4 d5 d6 d7 d8 d9 d10 d11 d12 d13 d14 : Option D) (e0 e2 e3 e4 e5 e6 e7 e8 e9 e10 e11 e12 e13 e14 : Option D) : goodB (tchkG invB tgI bdI (stI e0 e2 e3 e4 e5 e6 e7 e8 e9 e10 e11 e12 e13 e14)) (fT (stI d0 (some (.py y1_43.1)) (some (.py y1_43.2.1)) (some (.py y1_43.2.2)) d5 d6 d7 d8 d9 d10 d11 d12 d13 d14)) = true := by kernel_rfl
theorem i1_43 : ItemOk invB tg1 bd1 x1_43 := item1 h1_43 o1_43 t1_43
theorem c2_2 (d0 d2 d3 d4 d5 d6 d7 d8 d9 d10 d11 d12 d13 d14 : Option D) : goodB (nxB invB) (iterD tg2 bd2 x2_2 (stI d0 d2 d3 d4 d5 d6 d7 d8 d9 d10 d11 d12 d13 d14)) = true := by kernel_rfl
theorem i2_2 : ItemOk invB tg2 bd2 x2_2 := fun s hs => by
  obtain ⟨d0, d2, d3, d4, d5, d6, d7, d8, d9, d10, d11, d12, d13, d14, rfl⟩ := inv_of hs
  exact c2_2 d0 d2 d3 d4 d5 d6 d7 d8 d9 d10 d11 d12 d13 d14
theorem c2_8 (d0 d2 d3 d4 d5 d6 d7 d8 d9 d10 d11 d12 d13 d14 : Option D) : goodB (nxB invB) (iterD tg2 bd2 x2_8 (stI d0 d2 d3 d4 d5 d6 d7 d8 d9 d10 d11 d12 d13 d14)) = true := by kernel_rfl
theorem i2_8 : ItemOk invB tg2 bd2 x2_8 := fun s hs => by
  obtain ⟨d0, d2, d3, d4, d5, d6, d7, d8, d9, d10, d11, d12, d13, d14, rfl⟩ := inv_of hs
  exact c2_8 d0 d2 d3 d4 d5 d6 d7 d8 d9 d10 d11 d12 d13 d14
theorem c2_14 (d0 d2 d3 d4 d5 d6 d7 d8 d9 d10 d11 d12 d13 d14 : Option D) : goodB (nxB invB) (iterD tg2 bd2 x2_14 (stI d0 d2 d3 d4 d5 d6 d7 d8 d9 d10 d11 d12 d13 d14)) = true := by kernel_rfl
theorem i2_14 : ItemOk invB tg2 bd2 x2_14 := fun s hs => by
  obtain ⟨d0, d2, d3, d4, d5, d6, d7, d8, d9, d10, d11, d12, d13, d14, rfl⟩ := inv_of hs
  exact c2_14 d0 d2 d3 d4 d5 d6 d7 d8 d9 d10 d11 d12 d13 d14
end Lw

set_option Elab.async false
set_option linter.all false
set_option maxRecDepth 1000000
set_option maxHeartbeats 0
namespace Lw
open PySem PySem.Spec PyProof.Rows L2 DL
theorem h1_2 (d0 d2 d3 d4 d5 d6 d7 d8 d9 d10 d11 d12 d13 d14 : Option D) : iterD tg1 a1 x1_2 (stI d0 d2 d3 d4 d5 d6 d7 d8 d9 d10 d11 d12 d13 d14) = .ok .nx (stI d0 (some (.py y1_2.1)) (some (.py y1_2.2.1)) (some (.py y1_2.2.2)) d5 d6 d7 d8 d9 d10 d11 d12 d13 d14) := by kernel_rfl
theorem o1_2 (d0 d2 d3 d4 d5 d6 d7 d8 d9 d10 d11 d12 d13 d14 : Option D) : goodB (nxB invB) (iterD tgI bdI (.tuple [y1_2.1, y1_2.2.1, y1_2.2.2]) (stI d0 d2 d3 d4 d5 d6 d7 d8 d9 d10 d11 d12 d13 d14)) = true := by kernel_rfl
theorem t1_2 (d0 d2 d3 d4 d5 d6 d7 d8 d9 d10 d11 d12 d13 d14 : Option D) (e0 e2 e3 e4 e5 e6 e7 e8 e9 e10 e11 e12 e13 e14 : Option D) : goodB (tchkG invB tgI bdI (stI e0 e2 e3 e4 e5 e6 e7 e8 e9 e10 e11 e12 e13 e14)) (fT (stI d0 (some (.py y1_2.1)) (some (.py y1_2.2.1)) (some (.py y1_2.2.2)) d5 d6 d7 d8 d9 d10 d11 d12 d13 d14)) = true := by kernel_rfl
theorem i1_2 : ItemOk invB tg1 bd1 x1_2 := item1 h1_2 o1_2 t1_2
theorem h1_8 (d0 d2 d3 d4 d5 d6 d7 d8 d9 d10 d11 d12 d13 d14 : Option D) : iterD tg1 a1 x1_8 (stI d0 d2 d3 d4 d5 d6 d7 d8 d9 d10 d11 d12 d13 d14) = .ok .nx (stI d0 (some (.py y1_8.1)) (some (.py y1_8.2.1)) (some (.py y1_8.2.2)) d5 d6 d7 d8 d9 d10 d11 d12 d13 d14) := by kernel_rfl
theorem o1_8 (d0 d2 d3 d4 d5 d6 d7 d8 d9 d10 d11 d12 d13 d14 : Option D) : goodB (nxB invB) (iterD tgI bdI (.tuple [y1_8.1, y1_8.2.1, y1_8.2.2]) (stI d0 d2 d3 d4 d5 d6 d7 d8 d9 d10 d11 d12 d13 d14)) = true := by kernel_rfl
theorem t1_8 (d0 d2 d3 d4 d5 d6 d7 d8 d9 d10 d11 d12 d13 d14 : Option D) (e0 e2 e3 e4 e5 e6 e7 e8 e9 e10 e11 e12 e13 e14 : Option D) : goodB (tchkG invB tgI bdI (stI e0 e2 e3 e4 e5 e6 e7 e8 e9 e10 e11 e12 e13 e14)) (fT (stI d0 (some (.py y1_8.1)) (some (.py y1_8.2.1)) (some (.py y1_8.2.2)) d5 d6 d7 d8 d9 d10 d11 d12 d13 d14)) = true := by kernel_rfl
theorem i1_8 : ItemOk invB tg1 bd1 x1_8 := item1 h1_8 o1_8 t1_8
theorem h1_14 (d0 d2 d3 d4 d5 d6 d7 d8 d9 d10 d11 d12 d13 d14 : Option D) : iterD tg1 a1 x1_14 (stI d0 d2 d3 d4 d5 d6 d7 d8 d9 d10 d11 d12 d13 d14) = .ok .nx (stI d0 (some (.py y1_14.1)) (some (.py y1_14.2.1)) (some (.py y1_14.2.2)) d5 d6 d7 d8 d9 d10 d11 d12 d13 d14) := by kernel_rfl
theorem o1_14 (d0 d2 d3 d4 d5 d6 d7 d8 d9 d10 d11 d12 d13 d14 : Option D) : goodB (nxB invB) (iterD tgI bdI (.tuple [y1_14.1, y1_14.2.1, y1_14.2.2]) (stI d0 d2 d3 d4 d5 d6 d7 d8 d9 d10 d11 d12 d13 d14)) = true := by kernel_rfl
theorem t1_14 (d0 d2 d3 d4 d5 d6 d7 d8 d9 d10 d11 d12 d13 d14 : Option D) (e0 e2 e3 e4 e5 e6 e7 e8 e9 e10 e11 e12 e13 e14 : Option D) : goodB (tchkG invB tgI bdI (stI e0 e2 e3 e4 e5 e6 e7 e8 e9 e10 e11 e12 e13 e14)) (fT (stI d0 (some (.py y1_14.1)) (some (.py y1_14.2.1)) (some (.py y1_14.2.2)) d5 d6 d7 d8 d9 d10 d11 d12 d13 d14)) = true := by kernel_rfl
theorem i1_14 : ItemOk invB tg1 bd1 x1_14 := item1 h1_14 o1_14 t1_14
theorem h1_20 (d0 d2 d3 d4 d5 d6 d7 d8 d9 d10 d11 d12 d13 d14 : Option D) : iterD tg1 a1 x1_20 (stI d0 d2 d3 d4 d5 d6 d7 d8 d9 d10 d11 d12 d13 d14) = .ok .nx (stI d0 (some (.py y1_20.1)) (some (.py y1_20.2.1)) (some (.py y1_20.2.2)) d5 d6 d7 d8 d9 d10 d11 d12 d13 d14) := by kernel_rfl
theorem o1_20 (d0 d2 d3 d4 d5 d6 d7 d8 d9 d10 d11 d12 d13 d14 : Option D) : goodB (nxB invB) (iterD tgI bdI (.tuple [y1_20.1, y1_20.2.1, y1_20.2.2]) (stI d0 d2 d3 d4 d5 d6 d7 d8 d9 d10 d11 d12 d13 d14)) = true := by kernel_rfl
theorem t1_20 (d0 d2 d3 d4 d5 d6 d7 d8 d9 d10 d11 d12 d13 d14 : Option D) (e0 e2 e3 e4 e5 e6 e7 e8 e9 e10 e11 e12 e13 e14 : Option D) : goodB (tchkG invB tgI bdI (stI e0 e2 e3 e4 e5 e6 e7 e8 e9 e10 e11 e12 e13 e14)) (fT (stI d0 (some (.py y1_20.1)) (some (.py y1_20.2.1)) (some (.py y1_20.2.2)) d5 d6 d7 d8 d9 d10 d11 d12 d13 d14)) = true := by kernel_rfl
theorem i1_20 : ItemOk invB tg1 bd1 x1_20 := item1 h1_20 o1_20 t1_20
theorem h1_26 (d0 d2 d3 d4 d5 d6 d7 d8 d9 d10 d11 d12 d13 d14 : Option D) : iterD tg1 a1 x1_26 (stI d0 d2 d3 d4 d5 d6 d7 d8 d9 d10 d11 d12 d13 d14) = .ok .nx (stI d0 (some (.py y1_26.1)) (some (.py y1_26.2.1)) (some (.py y1_26.2.2)) d5 d6 d7 d8 d9 d10 d11 d12 d13 d14) := by kernel_rfl
theorem o1_26 (d0 d2 d3 d4 d5 d6 d7 d8 d9 d10 d11 d12 d13 d14 : Option D) : goodB (nxB invB) (iterD tgI bdI (.tuple [y1_26.1, y1_26.2.1, y1_26.2.2]) (stI d0 d2 d3 d4 d5 d6 d7 d8 d9 d10 d11 d12 d13 d14)) = true := by kernel_rfl
theorem t1_26 (d0 d2 d3 d4 d5 d6 d7 d8 d9 d10 d11 d12 d13 d14 : Option D) (e0 e2 e3 e4 e5 e6 e7 e8 e9 e10 e11 e12 e13 e14 : Option D) : goodB (tchkG invB tgI bdI (stI e0 e2 e3 e4 e5 e6 e7 e8 e9 e10 e11 e12 e13 e14)) (fT (stI d0 (some (.py y1_26.1)) (some (.py y1_26.2.1)) (some (.py y1_26.2.2)) d5 d6 d7 d8 d9 d10 d11 d12 d13 d14)) = true := by kernel_rfl
theorem i1_26 : ItemOk invB tg1 bd1 x1_26 := item1 h1_26 o1_26 t1_26
theorem h1_32 (d0 d2 d3 d4 d5 d6 d7 d8 d9 d10 d11 d12 d13 d14 : Option D) : iterD tg1 a1 x1_32 (stI d0 d2 d3 d4 d5 d6 d7 d8 d9 d10 d11 d12 d13 d14) = .ok .nx (stI d0 (some (.py y1_32.1)) (some (.py y1_32.2.1)) (some (.py y1_32.2.2)) d5 d6 d7 d8 d9 d10 d11 d12 d13 d14) := by kernel_rfl
theorem o1_32 (d0 d2 d3 d4 d5 d6 d7 d8 d9 d10 d11 d12 d13 d14 : Option D) : goodB (nxB invB) (iterD tgI bdI (.tuple [y1_32.1, y1_32.2.1, y1_32.2.2]) (stI d0 d2 d3 d4 d5 d6 d7 d8 d9 d10 d11 d12 d13 d14)) = true := by kernel_rfl
theorem t1_32 (d0 d2 d3 d4 d5 d6 d7 d8 d9 d10 d11 d12 d13 d14 : Option D) (e0 e2 e3 e4 e5 e6 e7 e8 e9 e10 e11 e12 e13 e14 : Option D) : goodB (tchkG invB tgI bdI (stI e0 e2 e3 e4 e5 e6 e7 e8 e9 e10 e11 e12 e13 e14)) (fT (stI d0 (some (.py y1_32.1)) (some (.py y1_32.2.1)) (some (.py y1_32.2.2)) d5 d6 d7 d8 d9 d10 d11 d12 d13 d14)) = true := by kernel_rfl
theorem i1_32 : ItemOk invB tg1 bd1 x1_32 := item1 h1_32 o1_32 t1_32
theorem h1_38 (d0 d2 d3 d4 d5 d6 d7 d8 d9 d10 d11 d12 d13 d14 : Option D) : iterD tg1 a1 x1_38 (stI d0 d2 d3 d4 d5 d6 d7 d8 d9 d10 d11 d12 d13 d14) = .ok .nx (stI d0 (some (.py y1_38.1)) (some (.py y1_38.2.1)) (some (.py y1_38.2.2)) d5 d6 d7 d8 d9 d10 d11 d12 d13 d14) := by kernel_rfl
theorem o1_38 (d0 d2 d3 d4 d5 d6 d7 d8 d9 d10 d11 d12 d13 d14 : Option D) : goodB (nxB invB) (iterD tgI bdI (.tuple [y1_38.1, y1_38.2.1, y1_38.2.2]) (stI d0 d2 d3 d4 d5 d6 d7 d8 d9 d10 d11 d12 d13 d14)) = true := by kernel_rfl
theorem t1_38 (d0 d2 d3 d4 d5 d6 d7 d8 d9 d10 d11 d12 d13 d14 : Option D) (e0 e2 e3 e4 e5 e6 e7 e8 e9 e10 e11 e12 e13 e14 : Option D) : goodB (tchkG invB tgI bdI (stI e0 e2 e3 e4 e5 e6 e7 e8 e9 e10 e11 e12 e13 e14)) (fT (stI d0 (some (.py y1_38.1)) (some (.py y1_38.2.1)) (some (.py y1_38.2.2)) d5 d6 d7 d8 d9 d10 d11 d12 d13 d14)) = true := by kernel_rfl
theorem i1_38 : ItemOk invB tg1 bd1 x1_38 := item1 h1_38 o1_38 t1_38
theorem h1_44 (d0 d2 d3 d4 d5 d6 d7 d8 d9 d10 d11 d12 d13 d14 : Option D) : iterD tg1 a1 x1_44 (stI d0 d2 d3 d4 d5 d6 d7 d8 d9 d10 d11 d12 d13 d14) = .ok .nx (stI d0 (some (.py y1_44.1)) (some (.py y1_44.2.1)) (some (.py y1_44.2.2)) d5 d6 d7 d8 d9 d10 d11 d12 d13 d14) := by kernel_rfl
theorem o1_44 (d0 d2 d3 d4 d5 d6 d7 d8 d9 d10 d11 d12 d13 d14 : Option D) : goodB (nxB invB) (iterD tgI bdI (.tuple [y1_44.1, y1_44.2.1, y1_44.2.2]) (stI d0 d2 d3 d4 d5 d6 d7 d8 d9 d10 d11 d12 d13 d14)) = true := by kernel_rfl
theorem t1_44 (d0 d2 d3 d4 d5 d6 d7 d8 d9 d10 d11 d12 d13 d14 : Option D) (e0 e2 e3 e4 e5 e6 e7 e8 e9 e10 e11 e12 e13 e14 : Option D) : goodB (tchkG invB tgI bdI (stI e0 e2 e3 e4 e5 e6 e7 e8 e9 e10 e11 e12 e13 e14)) (fT (stI d0 (some (.py y1_44.1)) (some (.py y1_44.2.1)) (some (.py y1_44.2.2)) d5 d6 d7 d8 d9 d10 d11 d12 d13 d14)) = true := by kernel_rfl
theorem i1_44 : ItemOk invB tg1 bd1 x1_44 := item1 h1_44 o1_44 t1_44
theorem c2_3 (d0 d2 d3 d4 d5 d6 d7 d8 d9 d10 d11 d12 d13 d14 : Option D) : goodB (nxB invB) (iterD tg2 bd2 x2_3 (stI d0 d2 d3 d4 d5 d6 d7 d8 d9 d10 d11 d12 d13 d14)) = true := by kernel_rfl
theorem i2_3 : ItemOk invB tg2 bd2 x2_3 := fun s hs => by
  obtain ⟨d0, d2, d3, d4, d5, d6, d7, d8, d9, d10, d11, d12, d13, d14, rfl⟩ := inv_of hs
  exact c2_3 d0 d2 d3 d4 d5 d6 d7 d8 d9 d10 d11 d12 d13 d14
theorem c2_9 (d0 d2 d3 d4 d5 d6 d7 d8 d9 d10 d11 d12 d13 d14 : Option D) : goodB (nxB invB) (iterD tg2 bd2 x2_9 (stI d0 d2 d3 d4 d5 d6 d7 d8 d9 d10 d11 d12 d13 d14)) = true := by kernel_rfl
theorem i2_9 : ItemOk invB tg2 bd2 x2_9 := fun s hs => by
  obtain ⟨d0, d2, d3, d4, d5, d6, d7, d8, d9, d10, d11, d12, d13, d14, rfl⟩ := inv_of hs
  exact c2_9 d0 d2 d3 d4 d5 d6 d7 d8 d9 d10 d11 d12 d13 d14
theorem c2_15 (d0 d2 d3 d4 d5 d6 d7 d8 d9 d10 d11 d12 d13 d14 : Option D) : goodB (nxB invB) (iterD tg2 bd2 x2_15 (stI d0 d2 d3 d4 d5 d6 d7 d8 d9 d10 d11 d12 d13 d14)) = true := by kernel_rfl
theorem i2_15 : ItemOk invB tg2 bd2 x2_15 := fun s hs => by
  obtain ⟨d0, d2, d3, d4, d5, d6, d7, d8, d9, d10, d11, d12, d13, d14, rfl⟩ := inv_of hs
  exact c2_15 d0 d2 d3 d4 d5 d6 d7 d8 d9 d10 d11 d12 d13 d14
end Lw

set_option Elab.async false
set_option linter.all false
set_option maxRecDepth 1000000
set_option maxHeartbeats 0
namespace Lw
open PySem PySem.Spec PyProof.Rows L2 DL
theorem h1_3 (d0 d2 d3 d4 d5 d6 d7 d8 d9 d10 d11 d12 d13 d14 : Option D) : iterD tg1 a1 x1_3 (stI d0 d2 d3 d4 d5 d6 d7 d8 d9 d10 d11 d12 d13 d14) = .ok .nx (stI d0 (some (.py y1_3.1)) (some (.py y1_3.2.1)) (some (.py y1_3.2.2)) d5 d6 d7 d8 d9 d10 d11 d12 d13 d14) := by kernel_rfl
theorem o1_3 (d0 d2 d3 d4 d5 d6 d7 d8 d9 d10 d11 d12 d13 d14 : Option D) : goodB (nxB invB) (iterD tgI bdI (.tuple [y1_3.1, y1_3.2.1, y1_3.2.2]) (stI d0 d2 d3 d4 d5 d6 d7 d8 d9 d10 d11 d12 d13 d14)) = true := by kernel_rfl
theorem t1_3 (d0 d2 d3 d4 d5 d6 d7 d8 d9 d10 d11 d12 d13 d14 : Option D) (e0 e2 e3 e4 e5 e6 e7 e8 e9 e10 e11 e12 e13 e14 : Option D) : goodB (tchkG invB tgI bdI (stI e0 e2 e3 e4 e5 e6 e7 e8 e9 e10 e11 e12 e13 e14)) (fT (stI d0 (some (.py y1_3.1)) (some (.py y1_3.2.1)) (some (.py y1_3.2.2)) d5 d6 d7 d8 d9 d10 d11 d12 d13 d14)) = true := by kernel_rfl
theorem i1_3 : ItemOk invB tg1 bd1 x1_3 := item1 h1_3 o1_3 t1_3
theorem h1_9 (d0 d2 d3 d4 d5 d6 d7 d8 d9 d10 d11 d12 d13 d14 : Option D) : iterD tg1 a1 x1_9 (stI d0 d2 d3 d4 d5 d6 d7 d8 d9 d10 d11 d12 d13 d14) = .ok .nx (stI d0 (some (.py y1_9.1)) (some (.py y1_9.2.1)) (some (.py y1_9.2.2)) d5 d6 d7 d8 d9 d10 d11 d12 d13 d14) := by kernel_rfl
theorem o1_9 (d0 d2 d3 d4 d5 d6 d7 d8 d9 d10 d11 d12 d13 d14 : Option D) : goodB (nxB invB) (iterD tgI bdI (.tuple [y1_9.1, y1_9.2.1, y1_9.2.2]) (stI d0 d2 d3 d4 d5 d6 d7 d8 d9 d10 d11 d12 d13 d14)) = true := by kernel_rfl
theorem t1_9 (d0 d2 d3 d4 d5 d6 d7 d8 d9 d10 d11 d12 d13 d14 : Option D) (e0 e2 e3 e4 e5 e6 e7 e8 e9 e10 e11 e12 e13 e14 : Option D) : goodB (tchkG invB tgI bdI (stI e0 e2 e3 e4 e5 e6 e7 e8 e9 e10 e11 e12 e13 e14)) (fT (stI d0 (some (.py y1_9.1)) (some (.py y1_9.2.1)) (some (.py y1_9.2.2)) d5 d6 d7 d8 d9 d10 d11 d12 d13 d14)) = true := by kernel_rfl
theorem i1_9 : ItemOk invB tg1 bd1 x1_9 := item1 h1_9 o1_9 t1_9
theorem h1_15 (d0 d2 d3 d4 d5 d6 d7 d8 d9 d10 d11 d12 d13 d14 : Option D) : iterD tg1 a1 x1_15 (stI d0 d2 d3 d4 d5 d6 d7 d8 d9 d10 d11 d12 d13 d14) = .ok .nx (stI d0 (some (.py y1_15.1)) (some (.py y1_15.2.1)) (some (.py y1_15.2.2)) d5 d6 d7 d8 d9 d10 d11 d12 d13 d14) := by kernel_rfl
theorem o1_15 (d0 d2 d3 d4 d5 d6 d7 d8 d9 d10 d11 d12 d13 d14 : Option D) : goodB (nxB invB) (iterD tgI bdI (.tuple [y1_15.1, y1_15.2.1, y1_15.2.2]) (stI d0 d2 d3 d4 d5 d6 d7 d8 d9 d10 d11 d12 d13 d14)) = true := by kernel_rfl
theorem t1_15 (d0 d2 d3 d4 d5 d6 d7 d8 d9 d10 d11 d12 d13 d14 : Option D) (e0 e2 e3 e4 e5 e6 e7 e8 e9 e10 e11 e12 e13 e14 : Option D) : goodB (tchkG invB tgI bdI (stI e0 e2 e3 e4 e5 e6 e7 e8 e9 e10 e11 e12 e13 e14)) (fT (stI d0 (some (.py y1_15.1)) (some (.py y1_15.2.1)) (some (.py y1_15.2.2)) d5 d6 d7 d8 d9 d10 d11 d12 d13 d14)) = true := by kernel_rfl
theorem i1_15 : ItemOk invB tg1 bd1 x1_15 := item1 h1_15 o1_15 t1_15
theorem h1_21 (d0 d2 d3 d4 d5 d6 d7 d8 d9 d10 d11 d12 d13 d14 : Option D) : iterD tg1 a1 x1_21 (stI d0 d2 d3 d4 d5 d6 d7 d8 d9 d10 d11 d12 d13 d14) = .ok .nx (stI d0 (some (.py y1_21.1)) (some (.py y1_21.2.1)) (some (.py y1_21.2.2)) d5 d6 d7 d8 d9 d10 d11 d12 d13 d14) := by kernel_rfl
theorem o1_21 (d0 d2 d3 d4 d5 d6 d7 d8 d9 d10 d11 d12 d13 d14 : Option D) : goodB (nxB invB) (iterD tgI bdI (.tuple [y1_21.1, y1_21.2.1, y1_21.2.2]) (stI d0 d2 d3 d4 d5 d6 d7 d8 d9 d10 d11 d12 d13 d14)) = true := by kernel_rfl
theorem t1_21 (d0 d2 d3 d4 d5 d6 d7 d8 d9 d10 d11 d12 d13 d14 : Option D) (e0 e2 e3 e4 e5 e6 e7 e8 e9 e10 e11 e12 e13 e14 : Option D) : goodB (tchkG invB tgI bdI (stI e0 e2 e3 e4 e5 e6 e7 e8 e9 e10 e11 e12 e13 e14)) (fT (stI d0 (some (.py y1_21.1)) (some (.py y1_21.2.1)) (some (.py y1_21.2.2)) d5 d6 d7 d8 d9 d10 d11 d12 d13 d14)) = true := by kernel_rfl
theorem i1_21 : ItemOk invB tg1 bd1 x1_21 := item1 h1_21 o1_21 t1_21
theorem h1_27 (d0 d2 d3 d4 d5 d6 d7 d8 d9 d10 d11 d12 d13 d14 : Option D) : iterD tg1 a1 x1_27 (stI d0 d2 d3 d4 d5 d6 d7 d8 d9 d10 d11 d12 d13 d14) = .ok .nx (stI d0 (some (.py y1_27.1)) (some (.py y1_27.2.1)) (some (.py y1_27.2.2)) d5 d6 d7 d8 d9 d10 d11 d12 d13 d14) := by kernel_rfl
theorem o1_27 (d0 d2 d3 d4 d5 d6 d7 d8 d9 d10 d11 d12 d13 d14 : Option D) : goodB (nxB invB) (iterD tgI bdI (.tuple [y1_27.1, y1_27.2.1, y1_27.2.2]) (stI d0 d2 d3 d4 d5 d6 d7 d8 d9 d10 d11 d12 d13 d14)) = true := by kernel_rfl
theorem t1_27 (d0 d2 d3 d4 d5 d6 d7 d8 d9 d10 d11 d12 d13 d14 : Option D) (e0 e2 e3 e4 e5 e6 e7 e8 e9 e10 e11 e12 e13 e14 : Option D) : goodB (tchkG invB tgI bdI (stI e0 e2 e3 e4 e5 e6 e7 e8 e9 e10 e11 e12 e13 e14)) (fT (stI d0 (some (.py y1_27.1)) (some (.py y1_27.2.1)) (some (.py y1_27.2.2)) d5 d6 d7 d8 d9 d10 d11 d12 d13 d14)) = true := by kernel_rfl
theorem i1_27 : ItemOk invB tg1 bd1 x1_27 := item1 h1_27 o1_27 t1_27
theorem h1_33 (d0 d2 d3 d4 d5 d6 d7 d8 d9 d10 d11 d12 d13 d14 : Option D) : iterD tg1 a1 x1_33 (stI d0 d2 d3 d4 d5 d6 d7 d8 d9 d10 d11 d12 d13 d14) = .ok .nx (stI d0 (some (.py y1_33.1)) (some (.py y1_33.2.1)) (some (.py y1_33.2.2)) d5 d6 d7 d8 d9 d10 d11 d12 d13 d14) := by kernel_rfl
theorem o1_33 (d0 d2 d3 d4 d5 d6 d7 d8 d9 d10 d11 d12 d13 d14 : Option D) : goodB (nxB invB) (iterD tgI bdI (.tuple [y1_33.1, y1_33.2.1, y1_33.2.2]) (stI d0 d2 d3 d4 d5 d6 d7 d8 d9 d10 d11 d12 d13 d14)) = true := by kernel_rfl
theorem t1_33 (d0 d2 d3 d4 d5 d6 d7 d8 d9 d10 d11 d12 d13 d14 : Option D) (e0 e2 e3 e4 e5 e6 e7 e8 e9 e10 e11 e12 e13 e14 : Option D) : goodB (tchkG invB tgI bdI (stI e0 e2 e3 e4 e5 e6 e7 e8 e9 e10 e11 e12 e13 e14)) (fT (stI d0 (some (.py y1_33.1)) (some (.py y1_33.2.1)) (some (.py y1_33.2.2)) d5 d6 d7 d8 d9 d10 d11 d12 d13 d14)) = true := by kernel_rfl
theorem i1_33 : ItemOk invB tg1 bd1 x1_33 := item1 h1_33 o1_33 t1_33
theorem h1_39 (d0 d2 d3 d4 d5 d6 d7 d8 d9 d10 d11 d12 d13 d14 : Option D) : iterD tg1 a1 x1_39 (stI d0 d2 d3 d4 d5 d6 d7 d8 d9 d10 d11 d12 d13 d14) = .ok .nx (stI d0 (some (.py y1_39.1)) (some (.py y1_39.2.1)) (some (.py y1_39.2.2)) d5 d6 d7 d8 d9 d10 d11 d12 d13 d14) := by kernel_rfl
theorem o1_39 (d0 d2 d3 d4 d5 d6 d7 d8 d9 d10 d11 d12 d13 d14 : Option D) : goodB (nxB invB) (iterD tgI bdI (.tuple [y1_39.1, y1_39.2.1, y1_39.2.2]) (stI d0 d2 d3 d4 d5 d6 d7 d8 d9 d10 d11 d12 d13 d14)) = true := by kernel_rfl
theorem t1_39 (d0 d2 d3 d4 d5 d6 d7 d8 d9 d10 d11 d12 d13 d14 : Option D) (e0 e2 e3 e4 e5 e6 e7 e8 e9 e10 e11 e12 e13 e14 : Option D) : goodB (tchkG invB tgI bdI (stI e0 e2 e3 e4 e5 e6 e7 e8 e9 e10 e11 e12 e13 e14)) (fT (stI d0 (some (.py y1_39.1)) (some (.py y1_39.2.1)) (some (.py y1_39.2.2)) d5 d6 d7 d8 d9 d10 d11 d12 d13 d14)) = true := by kernel_rfl
theorem i1_39 : ItemOk invB tg1 bd1 x1_39 := item1 h1_39 o1_39 t1_39
theorem h1_45 (d0 d2 d3 d4 d5 d6 d7 d8 d9 d10 d11 d12 d13 d14 : Option D) : iterD tg1 a1 x1_45 (stI d0 d2 d3 d4 d5 d6 d7 d8 d9 d10 d11 d12 d13 d14) = .ok .nx (stI d0 (some (.py y1_45.1)) (some (.py y1_45.2.1)) (some (.py y1_45.2.2)) d5 d6 d7 d8 d9 d10 d11 d12 d13 d14) := by kernel_rfl
theorem o1_45 (d0 d2 d3 d4 d5 d6 d7 d8 d9 d10 d11 d12 d13 d14 : Option D) : goodB (nxB invB) (iterD tgI bdI (.tuple [y1_45.1, y1_45.2.1, y1_45.2.2]) (stI d0 d2 d3 d4 d5 d6 d7 d8 d9 d10 d11 d12 d13 d14)) = true := by kernel_rfl
theorem t1_45 (d0 d2 d3 d4 d5 d6 d7 d8 d9 d10 d11 d12 d13 d14 : Option D) (e0 e2 e3 e4 e5 e6 e7 e8 e9 e10 e11 e12 e13 e14 : Option D) : goodB (tchkG invB tgI bdI (stI e0 e2 e3 e4 e5 e6 e7 e8 e9 e10 e11 e12 e13 e14)) (fT (stI d0 (some (.py y1_45.1)) (some (.py y1_45.2.1)) (some (.py y1_45.2.2)) d5 d6 d7 d8 d9 d10 d11 d12 d13 d14)) = true := by kernel_rfl
theorem i1_45 : ItemOk invB tg1 bd1 x1_45 := item1 h1_45 o1_45 t1_45
theorem c2_4 (d0 d2 d3 d4 d5 d6 d7 d8 d9 d10 d11 d12 d13 d14 : Option D) : goodB (nxB invB) (iterD tg2 bd2 x2_4 (stI d0 d2 d3 d4 d5 d6 d7 d8 d9 d10 d11 d12 d13 d14)) = true := by kernel_rfl
theorem i2_4 : ItemOk invB tg2 bd2 x2_4 := fun s hs => by
  obtain ⟨d0, d2, d3, d4, d5, d6, d7, d8, d9, d10, d11, d12, d13, d14, rfl⟩ := inv_of hs
  exact c2_4 d0 d2 d3 d4 d5 d6 d7 d8 d9 d10 d11 d12 d13 d14
theorem c2_10 (d0 d2 d3 d4 d5 d6 d7 d8 d9 d10 d11 d12 d13 d14 : Option D) : goodB (nxB invB) (iterD tg2 bd2 x2_10 (stI d0 d2 d3 d4 d5 d6 d7 d8 d9 d10 d11 d12 d13 d14)) = true := by kernel_rfl
theorem i2_10 : ItemOk invB tg2 bd2 x2_10 := fun s hs => by
  obtain ⟨d0, d2, d3, d4, d5, d6, d7, d8, d9, d10, d11, d12, d13, d14, rfl⟩ := inv_of hs
  exact c2_10 d0 d2 d3 d4 d5 d6 d7 d8 d9 d10 d11 d12 d13 d14
end Lw

set_option Elab.async false
set_option linter.all false
set_option maxRecDepth 1000000
set_option maxHeartbeats 0
namespace Lw
open PySem PySem.Spec PyProof.Rows L2 DL
theorem h1_4 (d0 d2 d3 d4 d5 d6 d7 d8 d9 d10 d11 d12 d13 d14 : Option D) : iterD tg1 a1 x1_4 (stI d0 d2 d3 d4 d5 d6 d7 d8 d9 d10 d11 d12 d13 d14) = .ok .nx (stI d0 (some (.py y1_4.1)) (some (.py y1_4.2.1)) (some (.py y1_4.2.2)) d5 d6 d7 d8 d9 d10 d11 d12 d13 d14) := by kernel_rfl
theorem o1_4 (d0 d2 d3 d4 d5 d6 d7 d8 d9 d10 d11 d12 d13 d14 : Option D) : goodB (nxB invB) (iterD tgI bdI (.tuple [y1_4.1, y1_4.2.1, y1_4.2.2]) (stI d0 d2 d3 d4 d5 d6 d7 d8 d9 d10 d11 d12 d13 d14)) = true := by kernel_rfl
theorem t1_4 (d0 d2 d3 d4 d5 d6 d7 d8 d9 d10 d11 d12 d13 d14 : Option D) (e0 e2 e3 e4 e5 e6 e7 e8 e9 e10 e11 e12 e13 e14 : Option D) : goodB (tchkG invB tgI bdI (stI e0 e2 e3 e4 e5 e6 e7 e8 e9 e10 e11 e12 e13 e14)) (fT (stI d0 (some (.py y1_4.1)) (some (.py y1_4.2.1)) (some (.py y1_4.2.2)) d5 d6 d7 d8 d9 d10 d11 d12 d13 d14)) = true := by kernel_rfl
theorem i1_4 : ItemOk invB tg1 bd1 x1_4 := item1 h1_4 o1_4 t1_4
theorem h1_10 (d0 d2 d3 d4 d5 d6 d7 d8 d9 d10 d11 d12 d13 d14 : Option D) : iterD tg1 a1 x1_10 (stI d0 d2 d3 d4 d5 d6 d7 d8 d9 d10 d11 d12 d13 d14) = .ok .nx (stI d0 (some (.py y1_10.1)) (some (.py y1_10.2.1)) (some (.py y1_10.2.2)) d5 d6 d7 d8 d9 d10 d11 d12 d13 d14) := by kernel_rfl
theorem o1_10 (d0 d2 d3 d4 d5 d6 d7 d8 d9 d10 d11 d12 d13 d14 : Option D) : goodB (nxB invB) (iterD tgI bdI (.tuple [y1_10.1, y1_10.2.1, y1_10.2.2]) (stI d0 d2 d3 d4 d5 d6 d7 d8 d9 d10 d11 d12 d13 d14)) = true := by kernel_rfl
theorem t1_10 (d0 d2 d3 d4 d5 d6 d7 d8 d9 d10 d11 d12 d13 d14 : Option D) (e0 e2 e3 e4 e5 e6 e7 e8 e9 e10 e11 e12 e13 e14 : Option D) : goodB (tchkG invB tgI bdI (stI e0 e2 e3 e4 e5 e6 e7 e8 e9 e10 e11 e12 e13 e14)) (fT (stI d0 (some (.py y1_10.1)) (some (.py y1_10.2.1)) (some (.py y1_10.2.2)) d5 d6 d7 d8 d9 d10 d11 d12 d13 d14)) = true := by kernel_rfl
theorem i1_10 : ItemOk invB tg1 bd1 x1_10 := item1 h1_10 o1_10 t1_10
theorem h1_16 (d0 d2 d3 d4 d5 d6 d7 d8 d9 d10 d11 d12 d13 d14 : Option D) : iterD tg1 a1 x1_16 (stI d0 d2 d3 d4 d5 d6 d7 d8 d9 d10 d11 d12 d13 d14) = .ok .nx (stI d0 (some (.py y1_16.1)) (some (.py y1_16.2.1)) (some (.py y1_16.2.2)) d5 d6 d7 d8 d9 d10 d11 d12 d13 d14) := by kernel_rfl
theorem o1_16 (d0 d2 d3 d4 d5 d6 d7 d8 d9 d10 d11 d12 d13 d14 : Option D) : goodB (nxB invB) (iterD tgI bdI (.tuple [y1_16.1, y1_16.2.1, y1_16.2.2]) (stI d0 d2 d3 d4 d5 d6 d7 d8 d9 d10 d11 d12 d13 d14)) = true := by kernel_rfl
theorem t1_16 (d0 d2 d3 d4 d5 d6 d7 d8 d9 d10 d11 d12 d13 d14 : Option D) (e0 e2 e3 e4 e5 e6 e7 e8 e9 e10 e11 e12 e13 e14 : Option D) : goodB (tchkG invB tgI bdI (stI e0 e2 e3 e4 e5 e6 e7 e8 e9 e10 e11 e12 e13 e14)) (fT (stI d0 (some (.py y1_16.1)) (some (.py y1_16.2.1)) (some (.py y1_16.2.2)) d5 d6 d7 d8 d9 d10 d11 d12 d13 d14)) = true := by kernel_rfl
theorem i1_16 : ItemOk invB tg1 bd1 x1_16 := item1 h1_16 o1_16 t1_16
theorem h1_22 (d0 d2 d3 d4 d5 d6 d7 d8 d9 d10 d11 d12 d13 d14 : Option D) : iterD tg1 a1 x1_22 (stI d0 d2 d3 d4 d5 d6 d7 d8 d9 d10 d11 d12 d13 d14) = .ok .nx (stI d0 (some (.py y1_22.1)) (some (.py y1_22.2.1)) (some (.py y1_22.2.2)) d5 d6 d7 d8 d9 d10 d11 d12 d13 d14) := by kernel_rfl
theorem o1_22 (d0 d2 d3 d4 d5 d6 d7 d8 d9 d10 d11 d12 d13 d14 : Option D) : goodB (nxB invB) (iterD tgI bdI (.tuple [y1_22.1, y1_22.2.1, y1_22.2.2]) (stI d0 d2 d3 d4 d5 d6 d7 d8 d9 d10 d11 d12 d13 d14)) = true := by kernel_rfl
theorem t1_22 (d0 d2 d3 d4 d5 d6 d7 d8 d9 d10 d11 d12 d13 d14 : Option D) (e0 e2 e3 e4 e5 e6 e7 e8 e9 e10 e11 e12 e13 e14 : Option D) : goodB (tchkG invB tgI bdI (stI e0 e2 e3 e4 e5 e6 e7 e8 e9 e10 e11 e12 e13 e14)) (fT (stI d0 (some (.py y1_22.1)) (some (.py y1_22.2.1)) (some (.py y1_22.2.2)) d5 d6 d7 d8 d9 d10 d11 d12 d13 d14)) = true := by kernel_rfl
theorem i1_22 : ItemOk invB tg1 bd1 x1_22 := item1 h1_22 o1_22 t1_22
theorem h1_28 (d0 d2 d3 d4 d5 d6 d7 d8 d9 d10 d11 d12 d13 d14 : Option D) : iterD tg1 a1 x1_28 (stI d0 d2 d3 d4 d5 d6 d7 d8 d9 d10 d11 d12 d13 d14) = .ok .nx (stI d0 (some (.py y1_28.1)) (some (.py y1_28.2.1)) (some (.py y1_28.2.2)) d5 d6 d7 d8 d9 d10 d11 d12 d13 d14) := by kernel_rfl
theorem o1_28 (d0 d2 d3 d4 d5 d6 d7 d8 d9 d10 d11 d12 d13 d14 : Option D) : goodB (nxB invB) (iterD tgI bdI (.tuple [y1_28.1, y1_28.2.1, y1_28.2.2]) (stI d0 d2 d3 d4 d5 d6 d7 d8 d9 d10 d11 d12 d13 d14)) = true := by kernel_rfl
theorem t1_28 (d0 d2 d3 d4 d5 d6 d7 d8 d9 d10 d11 d12 d13 d14 : Option D) (e0 e2 e3 e4 e5 e6 e7 e8 e9 e10 e11 e12 e13 e14 : Option D) : goodB (tchkG invB tgI bdI (stI e0 e2 e3 e4 e5 e6 e7 e8 e9 e10 e11 e12 e13 e14)) (fT (stI d0 (some (.py y1_28.1)) (some (.py y1_28.2.1)) (some (.py y1_28.2.2)) d5 d6 d7 d8 d9 d10 d11 d12 d13 d14)) = true := by kernel_rfl
theorem i1_28 : ItemOk invB tg1 bd1 x1_28 := item1 h1_28 o1_28 t1_28
theorem h1_34 (d0 d2 d3 d4 d5 d6 d7 d8 d9 d10 d11 d12 d13 d14 : Option D) : iterD tg1 a1 x1_34 (stI d0 d2 d3 d4 d5 d6 d7 d8 d9 d10 d11 d12 d13 d14) = .ok .nx (stI d0 (some (.py y1_34.1)) (some (.py y1_34.2.1)) (some (.py y1_34.2.2)) d5 d6 d7 d8 d9 d10 d11 d12 d13 d14) := by kernel_rfl
theorem o1_34 (d0 d2 d3 d4 d5 d6 d7 d8 d9 d10 d11 d12 d13 d14 : Option D) : goodB (nxB invB) (iterD tgI bdI (.tuple [y1_34.1, y1_34.2.1, y1_34.2.2]) (stI d0 d2 d3 d4 d5 d6 d7 d8 d9 d10 d11 d12 d13 d14)) = true := by kernel_rfl
theorem t1_34 (d0 d2 d3 d4 d5 d6 d7 d8 d9 d10 d11 d12 d13 d14 : Option D) (e0 e2 e3 e4 e5 e6 e7 e8 e9 e10 e11 e12 e13 e14 : Option D) : goodB (tchkG invB tgI bdI (stI e0 e2 e3 e4 e5 e6 e7 e8 e9 e10 e11 e12 e13 e14)) (fT (stI d0 (some (.py y1_34.1)) (some (.py y1_34.2.1)) (some (.py y1_34.2.2)) d5 d6 d7 d8 d9 d10 d11 d12 d13 d14)) = true := by kernel_rfl
theorem i1_34 : ItemOk invB tg1 bd1 x1_34 := item1 h1_34 o1_34 t1_34
theorem h1_40 (d0 d2 d3 d4 d5 d6 d7 d8 d9 d10 d11 d12 d13 d14 : Option D) : iterD tg1 a1 x1_40 (stI d0 d2 d3 d4 d5 d6 d7 d8 d9 d10 d11 d12 d13 d14) = .ok .nx (stI d0 (some (.py y1_40.1)) (some (.py y1_40.2.1)) (some (.py y1_40.2.2)) d5 d6 d7 d8 d9 d10 d11 d12 d13 d14) := by kernel_rfl
theorem o1_40 (d0 d2 d3 d4 d5 d6 d7 d8 d9 d10 d11 d12 d13 d14 : Option D) : goodB (nxB invB) (iterD tgI bdI (.tuple [y1_40.1, y1_40.2.1, y1_40.2.2]) (stI d0 d2 d3 d4 d5 d6 d7 d8 d9 d10 d11 d12 d13 d14)) = true := by kernel_rfl
theorem t1_40 (d0 d2 d3 d4 d5 d6 d7 d8 d9 d10 d11 d12 d13 d14 : Option D) (e0 e2 e3 e4 e5 e6 e7 e8 e9 e10 e11 e12 e13 e14 : Option D) : goodB (tchkG invB tgI bdI (stI e0 e2 e3 e4 e5 e6 e7 e8 e9 e10 e11 e12 e13 e14)) (fT (stI d0 (some (.py y1_40.1)) (some (.py y1_40.2.1)) (some (.py y1_40.2.2)) d5 d6 d7 d8 d9 d10 d11 d12 d13 d14)) = true := by kernel_rfl
theorem i1_40 : ItemOk invB tg1 bd1 x1_40 := item1 h1_40 o1_40 t1_40
theorem h1_46 (d0 d2 d3 d4 d5 d6 d7 d8 d9 d10 d11 d12 d13 d14 : Option D) : iterD tg1 a1 x1_46 (stI d0 d2 d3 d4 d5 d6 d7 d8 d9 d10 d11 d12 d13 d14) = .ok .nx (stI d0 (some (.py y1_46.1)) (some (.py y1_46.2.1)) (some (.py y1_46.2.2)) d5 d6 d7 d8 d9 d10 d11 d12 d13 d14) := by kernel_rfl
theorem o1_46 (d0 d2 d3 d4 d5 d6 d7 d8 d9 d10 d11 d12 d13 d14 : Option D) : goodB (nxB invB) (iterD tgI bdI (.tuple [y1_46.1, y1_46.2.1, y1_46.2.2]) (stI d0 d2 d3 d4 d5 d6 d7 d8 d9 d10 d11 d12 d13 d14)) = true := by kernel_rfl
theorem t1_46 (d0 d2 d3 d4 d5 d6 d7 d8 d9 d10 d11 d12 d13 d14 : Option D) (e0 e2 e3 e4 e5 e6 e7 e8 e9 e10 e11 e12 e13 e14 : Option D) : goodB (tchkG invB tgI bdI (stI e0 e2 e3 e4 e5 e6 e7 e8 e9 e10 e11 e12 e13 e14)) (fT (stI d0 (some (.py y1_46.1)) (some (.py y1_46.2.1)) (some (.py y1_46.2.2)) d5 d6 d7 d8 d9 d10 d11 d12 d13 d14)) = true := by kernel_rfl
theorem i1_46 : ItemOk invB tg1 bd1 x1_46 := item1 h1_46 o1_46 t1_46
theorem c2_5 (d0 d2 d3 d4 d5 d6 d7 d8 d9 d10 d11 d12 d13 d14 : Option D) : goodB (nxB invB) (iterD tg2 bd2 x2_5 (stI d0 d2 d3 d4 d5 d6 d7 d8 d9 d10 d11 d12 d13 d14)) = true := by kernel_rfl
theorem i2_5 : ItemOk invB tg2 bd2 x2_5 := fun s hs => by
  obtain ⟨d0, d2, d3, d4, d5, d6, d7, d8, d9, d10, d11, d12, d13, d14, rfl⟩ := inv_of hs
  exact c2_5 d0 d2 d3 d4 d5 d6 d7 d8 d9 d10 d11 d12 d13 d14
theorem c2_11 (d0 d2 d3 d4 d5 d6 d7 d8 d9 d10 d11 d12 d13 d14 : Option D) : goodB (nxB invB) (iterD tg2 bd2 x2_11 (stI d0 d2 d3 d4 d5 d6 d7 d8 d9 d10 d11 d12 d13 d14)) = true := by kernel_rfl
theorem i2_11 : ItemOk invB tg2 bd2 x2_11 := fun s hs => by
  obtain ⟨d0, d2, d3, d4, d5, d6, d7, d8, d9, d10, d11, d12, d13, d14, rfl⟩ := inv_of hs
  exact c2_11 d0 d2 d3 d4 d5 d6 d7 d8 d9 d10 d11 d12 d13 d14
end Lw

set_option Elab.async false
set_option linter.all false
set_option maxRecDepth 1000000
set_option maxHeartbeats 0
namespace Lw
open PySem PySem.Spec PyProof.Rows L2 DL
theorem h1_5 (d0 d2 d3 d4 d5 d6 d7 d8 d9 d10 d11 d12 d13 d14 : Option D) : iterD tg1 a1 x1_5 (stI d0 d2 d3 d4 d5 d6 d7 d8 d9 d10 d11 d12 d13 d14) = .ok .nx (stI d0 (some (.py y1_5.1)) (some (.py y1_5.2.1)) (some (.py y1_5.2.2)) d5 d6 d7 d8 d9 d10 d11 d12 d13 d14) := by kernel_rfl
theorem o1_5 (d0 d2 d3 d4 d5 d6 d7 d8 d9 d10 d11 d12 d13 d14 : Option D) : goodB (nxB invB) (iterD tgI bdI (.tuple [y1_5.1, y1_5.2.1, y1_5.2.2]) (stI d0 d2 d3 d4 d5 d6 d7 d8 d9 d10 d11 d12 d13 d14)) = true := by kernel_rfl
theorem t1_5 (d0 d2 d3 d4 d5 d6 d7 d8 d9 d10 d11 d12 d13 d14 : Option D) (e0 e2 e3 e4 e5 e6 e7 e8 e9 e10 e11 e12 e13 e14 : Option D) : goodB (tchkG invB tgI bdI (stI e0 e2 e3 e4 e5 e6 e7 e8 e9 e10 e11 e12 e13 e14)) (fT (stI d0 (some (.py y1_5.1)) (some (.py y1_5.2.1)) (some (.py y1_5.2.2)) d5 d6 d7 d8 d9 d10 d11 d12 d13 d14)) = true := by kernel_rfl
theorem i1_5 : ItemOk invB tg1 bd1 x1_5 := item1 h1_5 o1_5 t1_5
theorem h1_11 (d0 d2 d3 d4 d5 d6 d7 d8 d9 d10 d11 d12 d13 d14 : Option D) : iterD tg1 a1 x1_11 (stI d0 d2 d3 d4 d5 d6 d7 d8 d9 d10 d11 d12 d13 d14) = .ok .nx (stI d0 (some (.py y1_11.1)) (some (.py y1_11.2.1)) (some (.py y1_11.2.2)) d5 d6 d7 d8 d9 d10 d11 d12 d13 d14) := by kernel_rfl
theorem o1_11 (d0 d2 d3 d4 d5 d6 d7 d8 d9 d10 d11 d12 d13 d14 : Option D) : goodB (nxB invB) (iterD tgI bdI (.tuple [y1_11.1, y1_11.2.1, y1_11.2.2]) (stI d0 d2 d3 d4 d5 d6 d7 d8 d9 d10 d11 d12 d13 d14)) = true := by kernel_rfl
theorem t1_11 (d0 d2 d3 d4 d5 d6 d7 d8 d9 d10 d11 d12 d13 d14 : Option D) (e0 e2 e3 e4 e5 e6 e7 e8 e9 e10 e11 e12 e13 e14 : Option D) : goodB (tchkG invB tgI bdI (stI e0 e2 e3 e4 e5 e6 e7 e8 e9 e10 e11 e12 e13 e14)) (fT (stI d0 (some (.py y1_11.1)) (some (.py y1_11.2.1)) (some (.py y1_11.2.2)) d5 d6 d7 d8 d9 d10 d11 d12 d13 d14)) = true := by kernel_rfl
theorem i1_11 : ItemOk invB tg1 bd1 x1_11 := item1 h1_11 o1_11 t1_11
theorem h1_17 (d0 d2 d3 d4 d5 d6 d7 d8 d9 d10 d11 d12 d13 d14 : Option D) : iterD tg1 a1 x1_17 (stI d0 d2 d3 d4 d5 d6 d7 d8 d9 d10 d11 d12 d13 d14) = .ok .nx (stI d0 (some (.py y1_17.1)) (some (.py y1_17.2.1)) (some (.py y1_17.2.2)) d5 d6 d7 d8 d9 d10 d11 d12 d13 d14) := by kernel_rfl
theorem o1_17 (d0 d2 d3 d4 d5 d6 d7 d8 d9 d10 d11 d12 d13 d14 : Option D) : goodB (nxB invB) (iterD tgI bdI (.tuple [y1_17.1, y1_17.2.1, y1_17.2.2]) (stI d0 d2 d3 d4 d5 d6 d7 d8 d9 d10 d11 d12 d13 d14)) = true := by kernel_rfl
theorem t1_17 (d0 d2 d3 d4 d5 d6 d7 d8 d9 d10 d11 d12 d13 d14 : Option D) (e0 e2 e3 e4 e5 e6 e7 e8 e9 e10 e11 e12 e13 e14 : Option D) : goodB (tchkG invB tgI bdI (stI e0 e2 e3 e4 e5 e6 e7 e8 e9 e10 e11 e12 e13 e14)) (fT (stI d0 (some (.py y1_17.1)) (some (.py y1_17.2.1)) (some (.py y1_17.2.2)) d5 d6 d7 d8 d9 d10 d11 d12 d13 d14)) = true := by kernel_rfl
theorem i1_17 : ItemOk invB tg1 bd1 x1_17 := item1 h1_17 o1_17 t1_17
theorem h1_23 (d0 d2 d3 d4 d5 d6 d7 d8 d9 d10 d11 d12 d13 d14 : Option D) : iterD tg1 a1 x1_23 (stI d0 d2 d3 d4 d5 d6 d7 d8 d9 d10 d11 d12 d13 d14) = .ok .nx (stI d0 (some (.py y1_23.1)) (some (.py y1_23.2.1)) (some (.py y1_23.2.2)) d5 d6 d7 d8 d9 d10 d11 d12 d13 d14) := by kernel_rfl
theorem o1_23 (d0 d2 d3 d4 d5 d6 d7 d8 d9 d10 d11 d12 d13 d14 : Option D) : goodB (nxB invB) (iterD tgI bdI (.tuple [y1_23.1, y1_23.2.1, y1_23.2.2]) (stI d0 d2 d3 d4 d5 d6 d7 d8 d9 d10 d11 d12 d13 d14)) = true := by kernel_rfl
theorem t1_23 (d0 d2 d3 d4 d5 d6 d7 d8 d9 d10 d11 d12 d13 d14 : Option D) (e0 e2 e3 e4 e5 e6 e7 e8 e9 e10 e11 e12 e13 e14 : Option D) : goodB (tchkG invB tgI bdI (stI e0 e2 e3 e4 e5 e6 e7 e8 e9 e10 e11 e12 e13 e14)) (fT (stI d0 (some (.py y1_23.1)) (some (.py y1_23.2.1)) (some (.py y1_23.2.2)) d5 d6 d7 d8 d9 d10 d11 d12 d13 d14)) = true := by kernel_rfl
theorem i1_23 : ItemOk invB tg1 bd1 x1_23 := item1 h1_23 o1_23 t1_23
theorem h1_29 (d0 d2 d3 d4 d5 d6 d7 d8 d9 d10 d11 d12 d13 d14 : Option D) : iterD tg1 a1 x1_29 (stI d0 d2 d3 d4 d5 d6 d7 d8 d9 d10 d11 d12 d13 d14) = .ok .nx (stI d0 (some (.py y1_29.1)) (some (.py y1_29.2.1)) (some (.py y1_29.2.2)) d5 d6 d7 d8 d9 d10 d11 d12 d13 d14) := by kernel_rfl
theorem o1_29 (d0 d2 d3 d4 d5 d6 d7 d8 d9 d10 d11 d12 d13 d14 : Option D) : goodB (nxB invB) (iterD tgI bdI (.tuple [y1_29.1, y1_29.2.1, y1_29.2.2]) (stI d0 d2 d3 d4 d5 d6 d7 d8 d9 d10 d11 d12 d13 d14)) = true := by kernel_rfl
theorem t1_29 (d0 d2 d3 d4 d5 d6 d7 d8 d9 d10 d11 d12 d13 d14 : Option D) (e0 e2 e3 e4 e5 e6 e7 e8 e9 e10 e11 e12 e13 e14 : Option D) : goodB (tchkG invB tgI bdI (stI e0 e2 e3 e4 e5 e6 e7 e8 e9 e10 e11 e12 e13 e14)) (fT (stI d0 (some (.py y1_29.1)) (some (.py y1_29.2.1)) (some (.py y1_29.2.2)) d5 d6 d7 d8 d9 d10 d11 d12 d13 d14)) = true := by kernel_rfl
theorem i1_29 : ItemOk invB tg1 bd1 x1_29 := item1 h1_29 o1_29 t1_29
theorem h1_35 (d0 d2 d3 d4 d5 d6 d7 d8 d9 d10 d11 d12 d13 d14 : Option D) : iterD tg1 a1 x1_35 (stI d0 d2 d3 d4 d5 d6 d7 d8 d9 d10 d11 d12 d13 d14) = .ok .nx (stI d0 (some (.py y1_35.1)) (some (.py y1_35.2.1)) (some (.py y1_35.2.2)) d5 d6 d7 d8 d9 d10 d11 d12 d13 d14) := by kernel_rfl
theorem o1_35 (d0 d2 d3 d4 d5 d6 d7 d8 d9 d10 d11 d12 d13 d14 : Option D) : goodB (nxB invB) (iterD tgI bdI (.tuple [y1_35.1, y1_35.2.1, y1_35.2.2]) (stI d0 d2 d3 d4 d5 d6 d7 d8 d9 d10 d11 d12 d13 d14)) = true := by kernel_rfl
theorem t1_35 (d0 d2 d3 d4 d5 d6 d7 d8 d9 d10 d11 d12 d13 d14 : Option D) (e0 e2 e3 e4 e5 e6 e7 e8 e9 e10 e11 e12 e13 e14 : Option D) : goodB (tchkG invB tgI bdI (stI e0 e2 e3 e4 e5 e6 e7 e8 e9 e10 e11 e12 e13 e14)) (fT (stI d0 (some (.py y1_35.1)) (some (.py y1_35.2.1)) (some (.py y1_35.2.2)) d5 d6 d7 d8 d9 d10 d11 d12 d13 d14)) = true := by kernel_rfl
theorem i1_35 : ItemOk invB tg1 bd1 x1_35 := item1 h1_35 o1_35 t1_35
theorem h1_41 (d0 d2 d3 d4 d5 d6 d7 d8 d9 d10 d11 d12 d13 d14 : Option D) : iterD tg1 a1 x1_41 (stI d0 d2 d3 d4 d5 d6 d7 d8 d9 d10 d11 d12 d13 d14) = .ok .nx (stI d0 (some (.py y1_41.1)) (some (.py y1_41.2.1)) (some (.py y1_41.2.2)) d5 d6 d7 d8 d9 d10 d11 d12 d13 d14) := by kernel_rfl
theorem o1_41 (d0 d2 d3 d4 d5 d6 d7 d8 d9 d10 d11 d12 d13 d14 : Option D) : goodB (nxB invB) (iterD tgI bdI (.tuple [y1_41.1, y1_41.2.1, y1_41.2.2]) (stI d0 d2 d3 d4 d5 d6 d7 d8 d9 d10 d11 d12 d13 d14)) = true := by kernel_rfl
theorem t1_41 (d0 d2 d3 d4 d5 d6 d7 d8 d9 d10 d11 d12 d13 d14 : Option D) (e0 e2 e3 e4 e5 e6 e7 e8 e9 e10 e11 e12 e13 e14 : Option D) : goodB (tchkG invB tgI bdI (stI e0 e2 e3 e4 e5 e6 e7 e8 e9 e10 e11 e12 e13 e14)) (fT (stI d0 (some (.py y1_41.1)) (some (.py y1_41.2.1)) (some (.py y1_41.2.2)) d5 d6 d7 d8 d9 d10 d11 d12 d13 d14)) = true := by kernel_rfl
theorem i1_41 : ItemOk invB tg1 bd1 x1_41 := item1 h1_41 o1_41 t1_41
theorem c2_0 (d0 d2 d3 d4 d5 d6 d7 d8 d9 d10 d11 d12 d13 d14 : Option D) : goodB (nxB invB) (iterD tg2 bd2 x2_0 (stI d0 d2 d3 d4 d5 d6 d7 d8 d9 d10 d11 d12 d13 d14)) = true := by kernel_rfl
theorem i2_0 : ItemOk invB tg2 bd2 x2_0 := fun s hs => by
  obtain ⟨d0, d2, d3, d4, d5, d6, d7, d8, d9, d10, d11, d12, d13, d14, rfl⟩ := inv_of hs
  exact c2_0 d0 d2 d3 d4 d5 d6 d7 d8 d9 d10 d11 d12 d13 d14
theorem c2_6 (d0 d2 d3 d4 d5 d6 d7 d8 d9 d10 d11 d12 d13 d14 : Option D) : goodB (nxB invB) (iterD tg2 bd2 x2_6 (stI d0 d2 d3 d4 d5 d6 d7 d8 d9 d10 d11 d12 d13 d14)) = true := by kernel_rfl
theorem i2_6 : ItemOk invB tg2 bd2 x2_6 := fun s hs => by
  obtain ⟨d0, d2, d3, d4, d5, d6, d7, d8, d9, d10, d11, d12, d13, d14, rfl⟩ := inv_of hs
  exact c2_6 d0 d2 d3 d4 d5 d6 d7 d8 d9 d10 d11 d12 d13 d14
theorem c2_12 (d0 d2 d3 d4 d5 d6 d7 d8 d9 d10 d11 d12 d13 d14 : Option D) : goodB (nxB invB) (iterD tg2 bd2 x2_12 (stI d0 d2 d3 d4 d5 d6 d7 d8 d9 d10 d11 d12 d13 d14)) = true := by kernel_rfl
theorem i2_12 : ItemOk invB tg2 bd2 x2_12 := fun s hs => by
  obtain ⟨d0, d2, d3, d4, d5, d6, d7, d8, d9, d10, d11, d12, d13, d14, rfl⟩ := inv_of hs
  exact c2_12 d0 d2 d3 d4 d5 d6 d7 d8 d9 d10 d11 d12 d13 d14
end Lw

set_option Elab.async false
set_option linter.all false
set_option maxRecDepth 1000000
set_option maxHeartbeats 0
namespace Lw
open PySem PySem.Spec PyProof.Rows L2 DL
theorem all1 : ∀ x ∈ items1, ItemOk invB tg1 bd1 x := by
  intro x hx
  rw [items1_eq] at hx
  simp only [List.mem_cons, List.not_mem_nil, or_false] at hx
  rcases hx with rfl | rfl | rfl | rfl | rfl | rfl | rfl | rfl | rfl | rfl | rfl | rfl | rfl | rfl | rfl | rfl | rfl | rfl | rfl | rfl | rfl | rfl | rfl | rfl | rfl | rfl | rfl | rfl | rfl | rfl | rfl | rfl | rfl | rfl | rfl | rfl | rfl | rfl | rfl | rfl | rfl | rfl | rfl | rfl | rfl | rfl | rfl
  · exact i1_0
  · exact i1_1
  · exact i1_2
  · exact i1_3
  · exact i1_4
  · exact i1_5
  · exact i1_6
  · exact i1_7
  · exact i1_8
  · exact i1_9
  · exact i1_10
  · exact i1_11
  · exact i1_12
  · exact i1_13
  · exact i1_14
  · exact i1_15
  · exact i1_16
  · exact i1_17
  · exact i1_18
  · exact i1_19
  · exact i1_20
  · exact i1_21
  · exact i1_22
  · exact i1_23
  · exact i1_24
  · exact i1_25
  · exact i1_26
  · exact i1_27
  · exact i1_28
  · exact i1_29
  · exact i1_30
  · exact i1_31
  · exact i1_32
  · exact i1_33
  · exact i1_34
  · exact i1_35
  · exact i1_36
  · exact i1_37
  · exact i1_38
  · exact i1_39
  · exact i1_40
  · exact i1_41
  · exact i1_42
  · exact i1_43
  · exact i1_44
  · exact i1_45
  · exact i1_46
theorem all2 : ∀ x ∈ items2, ItemOk invB tg2 bd2 x := by
  intro x hx
  rw [items2_eq] at hx
  simp only [List.mem_cons, List.not_mem_nil, or_false] at hx
  rcases hx with rfl | rfl | rfl | rfl | rfl | rfl | rfl | rfl | rfl | rfl | rfl | rfl | rfl | rfl | rfl | rfl
  · exact i2_0
  · exact i2_1
  · exact i2_2
  · exact i2_3
  · exact i2_4
  · exact i2_5
  · exact i2_6
  · exact i2_7
  · exact i2_8
  · exact i2_9
  · exact i2_10
  · exact i2_11
  · exact i2_12
  · exact i2_13
  · exact i2_14
  · exact i2_15
theorem m_law_eq : m_law = sSeq sA (sSeq (sFor fi1 tg1 bd1) (sSeq (sFor fi2 tg2 bd2) sR)) := by kernel_rfl
theorem fi1_eq' (s : ST) (h : invB s = true) : fi1 s = .ok items1 s := by
  obtain ⟨d0, d2, d3, d4, d5, d6, d7, d8, d9, d10, d11, d12, d13, d14, rfl⟩ := inv_of h
  exact fi1_eq d0 d2 d3 d4 d5 d6 d7 d8 d9 d10 d11 d12 d13 d14
theorem fi2_eq' (s : ST) (h : invB s = true) : fi2 s = .ok items2 s := by
  obtain ⟨d0, d2, d3, d4, d5, d6, d7, d8, d9, d10, d11, d12, d13, d14, rfl⟩ := inv_of h
  exact fi2_eq d0 d2 d3 d4 d5 d6 d7 d8 d9 d10 d11 d12 d13 d14
theorem good_R' (s : ST) (h : invB s = true) : goodB trueF (sR s) = true := by
  obtain ⟨d0, d2, d3, d4, d5, d6, d7, d8, d9, d10, d11, d12, d13, d14, rfl⟩ := inv_of h
  exact good_R d0 d2 d3 d4 d5 d6 d7 d8 d9 d10 d11 d12 d13 d14
theorem ff_law_eq : ff_law = fnRun N_law.length m_law := by kernel_rfl
theorem good_law (ns : List Int) : goodB trueD (ff_law [.scr ns] []) = true := by
  refine fn_good ff_law_eq ?_
  rw [m_law_eq]
  exact law_gen (good_A ns) fi1_eq' all1 fi2_eq' all2 good_R'
end Lw

set_option Elab.async false
set_option linter.all false
set_option maxRecDepth 100000
set_option maxHeartbeats 0
namespace Lw
open PySem PySem.W PySem.Calls PyProof.Rows
abbrev RR := OpenLaw.row PySem.Challenge.rw_answerbits_k49_whole_conditions_of_steps
abbrev QQ := view RR.prog [63]
abbrev DD := HandSHeadRun.topDef RR.prog 63
theorem p1 : opening RR.prog = plainProg RR.prog.main.scope.names := by kernel_rfl
theorem p2 : ∀ s, fenceModules? RR.prog s = some s := (fun s => by kernel_rfl)
theorem p3 : defOf QQ RR.name = some (DD, []) := by kernel_rfl
theorem p4 : RR.prog.theDef RR.name = some (DD.params, DD.body, DD.scope) := by kernel_rfl
theorem p5 : kwWritten? DD.params.kwonlyargs DD.params.kw_defaults = some [] := by kernel_rfl
theorem p6 : (!RR.writes || RR.records.isEmpty) = true := by rfl
theorem p7 : RR.wellSaid = true := by decide +kernel
theorem p8 : (chainsOk QQ && opensWell RR.prog && (frees RR.toRowW && RR.within.isEmpty)) = true := by decide +kernel
theorem p9 : RR.prog.bare := ⟨rfl, rfl, rfl, rfl, rfl, by decide +kernel⟩
theorem phw : RR.toRowW.promised := by w_witness2
theorem h1 : (PySem.Challenge.rw_answerbits_k49_whole_conditions_of_steps).most = some 63 := rfl
theorem h2 : DD.params.defaults = [] := by kernel_rfl
theorem h3 : L2.Room 10 callerA := ⟨rfl, by decide, by decide⟩
theorem h4 : DD.name = ("law" : PySem.Str) := by kernel_rfl
theorem en (hw : RR.toRowW.promised) (call : WalkO QQ Lw.hnm (XL QQ []) Lw.hk.says RR.toRowW DD [] fun f vs => PySem.call f vs) : RR.Holds :=
  HandSHeadRun.head_any (r := RR) (q := QQ) (H := Lw.hk) (ob := Lw.ob) (M := 12000) (loose := Lw.hnm) (d := DD) (kwd := []) Lw.ob_eq p1 p2 Lw.run p3 p4 p5 p6 p7 p8 p9 hw call
end Lw
namespace Lw
open PySem PySem.Spec PyProof.Rows L2 DL
theorem facts {P : Program} {w : World} {K : PySem.W.Frag} {h : Heap} {mg : Str → Option Value} {f : Addr} (X : K.In h) (G : h.Ns mainGlobals mg) (hf0 : mg ("law" : Str) = some (.ref f)) (c : He.SaysX hfa hfn hts [] hex w h K) :
    ∃ fd : FuncData, (∀ (s : Shared) (v : Value), BindsTo s fd ⟨[v], []⟩ [("script", v)]) ∧ ∀ base : Heap, K.In base → base.Ns mainGlobals mg → FnG P w K mg base 10 f fd ["script"] (spF K 1 ff_law) := by
  have M := md_of X G c
  obtain ⟨fd, F⟩ := M.d_law
  have e := hf0.symm.trans M.g_law
  cases e
  have b := FunD.bindsA (ps := ["script"]) F fun _ _ _ _ _ _ us hl => match us, hl with | [_], _ => rfl
  exact ⟨fd, fun s v => b s [v] rfl, fun base _ _ => fnD F S_law fun cdv A outer s H E C tk hp => b_law M cdv A outer s H E C tk hp⟩
end Lw
namespace Lw
open PySem PySem.W PySem.Calls PyProof.Rows
theorem cl : WalkO QQ Lw.hnm (XL QQ []) Lw.hk.says RR.toRowW DD [] fun f vs => PySem.call f vs := by
    refine DL.walk_ofB (l := PySem.Challenge.rw_answerbits_k49_whole_conditions_of_steps) (n := 63) (k := 10) (x := "script") (f := Lw.ff_law) h1 (by decide) h2 h3 Lw.good_law ?F
    intro w mg fa h Y G hmg0
    obtain ⟨K, KX, c⟩ := Y
    have hmg : mg ("law" : PySem.Str) = some (.ref fa) := (congrArg mg h4).symm.trans hmg0
    obtain ⟨fd, hb, hF⟩ := Lw.facts (P := (PySem.Challenge.rw_answerbits_k49_whole_conditions_of_steps).prog) (w := w) KX G hmg c
    exact ⟨K, fd, KX, hb, hF⟩
end Lw
open PySem PySem.W PySem.Calls PyProof.Rows
theorem PySem.Challenge.cw_answerbits_k49_whole_conditions_of_steps_holds : PySem.Challenge.rw_answerbits_k49_whole_conditions_of_steps.Holds := by
  w_on; o_law
  exact Lw.en Lw.phw Lw.cl
