import PyProof.Rows.All
import Wide.All
import OpenK.AllK
import Wide.FinOn
import PyProof.EqAt
import PyProof.EqKinds
import PyProof.TupleCall
import KE.KDictKeyed
import KE.KDictWalk
import HandS.ForMost
import HandS.ForExc
import HandS.Wide
import HandS.TryOnly
import HandS.TupAny
import HandS.Gcd
import HandS.Deep
import HandS.Iter
import KE.GoesEnum
import KE.GoesMore
import KE.GoesDict
import HandS.Zip
import KE.KExcSuper
import HandS.Exc
import HandS.TryMany
import HandS.ExcField
import HandS.List
import HandS.Ends
import HandS.ExcIs
import KE.RegKSuper
import HandS.ExcValue
import HandS.IsInst
import KE.KExcIs
import PySem.Challenge.RW_deedroads_k00_errors_are_apart
set_option Elab.async false
set_option linter.all false
set_option maxRecDepth 100000
namespace DL
open PySem PySem.Spec PyProof.Rows L2

/-- plain data; a list or a dict bears a flag: true, it is owned (its holder alone knows it, it may be changed) -/
inductive D where
  | non | bl (b : Bool) | int (i : Int) | str (x : Str)
  | tup (xs : List D) | lst (own : Bool) (xs : List D) | dic (own : Bool) (kvs : List (D × D)) | set (xs : List Int) | scr (xs : List Int)
  | pin (a : Addr) (es : Array DictEntry) (ep : Nat)
  | err (c : Str) (n : Int)

mutual
/-- nothing in it may be changed any more -/
def D.fz : D → D
  | .non => .non | .bl b => .bl b | .int i => .int i | .str x => .str x
  | .tup xs => .tup (fzs xs)
  | .lst _ xs => .lst false (fzs xs)
  | .dic _ kvs => .dic false (fzp kvs)
  | .set xs => .set xs
  | .scr xs => .scr xs
  | .pin a es ep => .pin a es ep
  | .err c n => .err c n
def fzs : List D → List D
  | [] => []
  | d :: r => d.fz :: fzs r
def fzp : List (D × D) → List (D × D)
  | [] => []
  | (k, d) :: r => (k, d.fz) :: fzp r
end
mutual
theorem D.fz_fz : ∀ d : D, d.fz.fz = d.fz
  | .non | .bl _ | .int _ | .str _ | .set _ | .scr _ | .pin _ _ _ | .err _ _ => by simp [D.fz]
  | .tup xs => by simp [D.fz, fzs_fzs xs]
  | .lst _ xs => by simp [D.fz, fzs_fzs xs]
  | .dic _ kvs => by simp [D.fz, fzp_fzp kvs]
theorem fzs_fzs : ∀ xs : List D, fzs (fzs xs) = fzs xs
  | [] => by simp [fzs]
  | d :: r => by simp [fzs, D.fz_fz d, fzs_fzs r]
theorem fzp_fzp : ∀ xs : List (D × D), fzp (fzp xs) = fzp xs
  | [] => by simp [fzp]
  | (k, d) :: r => by simp [fzp, D.fz_fz d, fzp_fzp r]
end
theorem fzs_eq (xs : List D) : fzs xs = xs.map D.fz := by
  induction xs with
  | nil => simp [fzs]
  | cons d r ih => simp [fzs, ih]
theorem fzp_eq (xs : List (D × D)) : fzp xs = xs.map fun p => (p.1, p.2.fz) := by
  induction xs with
  | nil => simp [fzp]
  | cons d r ih => obtain ⟨k, d⟩ := d; simp [fzp, ih]

mutual
/-- no frozen list or dict is in it: it holds nothing that another one may know -/
def D.clean : D → Bool
  | .non | .bl _ | .int _ | .str _ => true
  | .tup xs => cleans xs
  | .lst own xs => own && cleans xs
  | .dic own kvs => own && cleanp kvs
  | .set _ => false
  | .scr _ => true
  | .pin _ _ _ => false
  | .err _ _ => false
def cleans : List D → Bool
  | [] => true
  | d :: r => d.clean && cleans r
def cleanp : List (D × D) → Bool
  | [] => true
  | (_, d) :: r => d.clean && cleanp r
end

mutual
def D.nk : D → Option NestedKey
  | .int i => some (.num i)
  | .str x => some (.text x)
  | .non => some .none
  | .tup xs => (nks xs).map .tup
  | _ => none
def nks : List D → Option (List NestedKey)
  | [] => some []
  | d :: r => match d.nk, nks r with
    | some k, some ks => some (k :: ks)
    | _, _ => none
end

/-- the same key -/
def D.keq (a b : D) : Bool := match a.nk, b.nk with
  | some x, some y => decide (x = y)
  | _, _ => false
def keyHash (w : World) (k : D) : Int := match k with
  | .int i => hashInt i
  | k => match k.nk with
    | some n => n.hash w
    | none => 0
/-- a key that a dict may have: an int, or a tuple of ints, texts, None and such tuples -/
def D.isKey (k : D) : Bool := match k with
  | .int _ => true
  | .tup xs => match nks xs with
    | some ns => decide ((NestedKey.tup ns).depth ≤ 8)
    | none => false
  | _ => false
def D.isI : D → Bool
  | .int _ => true
  | _ => false

mutual
theorem nk_clean : ∀ (d : D), d.nk.isSome = true → d.clean = true
  | .non, _ => rfl
  | .bl _, _ => rfl
  | .int _, _ => rfl
  | .str _, _ => rfl
  | .tup xs, h => by
    simp only [D.nk, Option.isSome_map] at h
    simp only [D.clean]
    exact nks_clean xs h
  | .lst _ _, h => by simp [D.nk] at h
  | .dic _ _, h => by simp [D.nk] at h
  | .set _, h => by simp [D.nk] at h
  | .scr _, h => by simp [D.nk] at h
  | .pin _ _ _, h => by simp [D.nk] at h
  | .err _ _, h => by simp [D.nk] at h
theorem nks_clean : ∀ (ds : List D), (nks ds).isSome = true → cleans ds = true
  | [], _ => rfl
  | d :: r, h => by
    simp only [nks] at h
    cases e1 : d.nk with
    | none => rw [e1] at h; simp at h
    | some k =>
      cases e2 : nks r with
      | none => rw [e1, e2] at h; simp at h
      | some ks =>
        simp only [cleans, Bool.and_eq_true]
        exact ⟨nk_clean d (by rw [e1]; rfl), nks_clean r (by rw [e2]; rfl)⟩
end
theorem key_clean {k : D} (h : k.isKey = true) : k.clean = true := by
  cases k with
  | int i => simp [D.clean]
  | tup xs =>
    refine nk_clean _ ?_
    simp only [D.isKey] at h
    simp only [D.nk, Option.isSome_map]
    cases e : nks xs with
    | none => rw [e] at h; simp at h
    | some ns => rfl
  | _ => simp [D.isKey] at h

/-- an error object of the class at C, its dict at dx, stands at e -/
def ephi (e C dx : Addr) : Heap → Prop := fun h => ∃ (oe : Obj) (vs : Array Value), h.get? e = some oe ∧ oe.cls = .ref C ∧ oe.dict = some dx ∧ oe.data = .fields vs
/-- a dict with the entries es stands at a -/
def dphi (a : Addr) (es : Array DictEntry) (ep : Nat) : Heap → Prop := fun h => h.DictRaw a es ep

/-- a list that is not written any more -/
def FzL (P : Addr → Prop) (H : Hp) (a : Addr) (vs : List V) : Prop := H a = some (.lst vs) ∧ P a
theorem FzL.sql {K : PySem.W.Frag} {P : Addr → Prop} {H : Hp} {a : Addr} {vs : List V} (h : FzL P H a vs) : SqL K H a vs := .of h.1
theorem FzL.mono {P P' : Addr → Prop} {H H' : Hp} {a : Addr} {vs : List V} (h : FzL P H a vs) (e : Same H H') (p : ∀ a, P a → P' a) : FzL P' H' a vs := ⟨e _ _ h.1, p _ h.2⟩
theorem FzL.upd {P : Addr → Prop} {H : Hp} {a x : Addr} {o : HO} {vs : List V} (h : FzL P H a vs) (np : ¬ P x) : FzL P (L2.upd H x o) a vs :=
  ⟨by rw [upd_ne (fun z => by subst z; exact np h.2)]; exact h.1, h.2⟩
/-- the script: a list of ints that nobody writes -/
def Scr (K : PySem.W.Frag) (H : Hp) (a : Addr) (vs : List V) : Prop :=
  (∃ o, H a = some (.frz o (.lst vs))) ∨ ∃ (o : Obj) (its : Array Value) (n : Nat), K.lookup a = some o ∧ o.cls = .type "list" ∧ o.dict = none ∧ o.data = .seq its n ∧ its.size ≤ sizeLine ∧ Vals vs its.toList
theorem Scr.sql {K : PySem.W.Frag} {H : Hp} {a : Addr} {vs : List V} (h : Scr K H a vs) : SqL K H a vs := h.elim (fun h => .inl (.inr h)) .inr
theorem Scr.mono {K : PySem.W.Frag} {H H' : Hp} {a : Addr} {vs : List V} (h : Scr K H a vs) (e : Same H H') : Scr K H' a vs := h.elim (fun ⟨o, h⟩ => .inl ⟨o, e _ _ h⟩) .inr
section
variable (K : PySem.W.Frag) (w : World) (P : Addr → Prop) (H : Hp)
mutual
inductive Rep : D → V → List Addr → Prop
  | non : Rep .non .non []
  | bl (b : Bool) : Rep (.bl b) (.bl b) []
  | int (i : Int) : Rep (.int i) (.int i) []
  | str (x : Str) : Rep (.str x) (.str x) []
  | tup {a : Addr} {vs : List V} {ds : List D} {as : List Addr} : H a = some (.tup vs) → Reps ds vs as → Rep (.tup ds) (.ref a) as
  | scr {a : Addr} {xs : List Int} : Scr K H a (xs.map V.int) → Rep (.scr xs) (.ref a) []
  | lstF {a : Addr} {vs : List V} {ds : List D} : FzL P H a vs → Reps ds vs [] → Rep (.lst false ds) (.ref a) []
  | lstO {a : Addr} {vs : List V} {ds : List D} {as : List Addr} : H a = some (.lst vs) → Reps ds vs as → Rep (.lst true ds) (.ref a) (a :: as)
  | dicF {a : Addr} {es : Array DictEntry} {ep : Nat} {kvs : List (D × D)} : H a = some (.ext (dphi a es ep)) → P a → (a == sysModules) = false → es.size ≤ sizeLine → EReps es.toList kvs [] →
      (kvs.map (·.1)).Nodup → Rep (.dic false kvs) (.ref a) []
  | dicO {a : Addr} {es : Array DictEntry} {ep : Nat} {kvs : List (D × D)} {as : List Addr} : H a = some (.ext (dphi a es ep)) → (a == sysModules) = false → es.size ≤ sizeLine → EReps es.toList kvs as →
      (kvs.map (·.1)).Nodup → Rep (.dic true kvs) (.ref a) (a :: as)
  | set {a : Addr} {S : Int → Bool} {n : Nat} {xs : List Int} : H a = some (.set S n) → P a → (∀ i, S i = true ↔ i ∈ xs) → n = xs.length → xs.Nodup → Rep (.set xs) (.ref a) []
  | pin {a : Addr} {es : Array DictEntry} {ep : Nat} : H a = some (.ext (dphi a es ep)) → P a → Rep (.pin a es ep) (.bl true) []
  | err {c : Str} {n : Int} {e C dx : Addr} : PySem.W.nsIn K mainGlobals c = some (some (.ref C)) → H e = some (.ext (ephi e C dx)) → P e → H dx = some (.xd [(("at" : Str), .int n)]) → Rep (.err c n) (.ref e) []
inductive Reps : List D → List V → List Addr → Prop
  | nil : Reps [] [] []
  | cons {d : D} {v : V} {as : List Addr} {ds : List D} {vs : List V} {bs : List Addr} : Rep d v as → Reps ds vs bs → Reps (d :: ds) (v :: vs) (as ++ bs)
inductive EReps : List DictEntry → List (D × D) → List Addr → Prop
  | enil : EReps [] [] []
  | econs {e : DictEntry} {k d : D} {kv v : V} {as : List Addr} {es : List DictEntry} {kvs : List (D × D)} {bs : List Addr} : k.isKey = true → RelV kv e.key → Rep k kv [] → e.hash = keyHash w k →
      RelV v e.val → Rep d v as → EReps es kvs bs → EReps (e :: es) ((k, d) :: kvs) (as ++ bs)
end
end

section
variable {K : PySem.W.Frag} {w : World} {P P' : Addr → Prop} {H H' : Hp}
theorem same_sql {a : Addr} {xs : List V} (e : Same H H') (h : SqL K H a xs) : SqL K H' a xs := e.seq h

mutual
theorem Rep.mono (e : Same H H') (p : ∀ a, P a → P' a) : ∀ {d : D} {v : V} {as : List Addr}, Rep K w P H d v as → Rep K w P' H' d v as
  | _, _, _, .non => .non
  | _, _, _, .bl b => .bl b
  | _, _, _, .int i => .int i
  | _, _, _, .str x => .str x
  | _, _, _, .tup h r => .tup (e _ _ h) (Reps.mono e p r)
  | _, _, _, .lstF h r => .lstF (h.mono e p) (Reps.mono e p r)
  | _, _, _, .lstO h r => .lstO (e _ _ h) (Reps.mono e p r)
  | _, _, _, .dicF h q s z r n => .dicF (e _ _ h) (p _ q) s z (EReps.mono e p r) n
  | _, _, _, .dicO h s z r n => .dicO (e _ _ h) s z (EReps.mono e p r) n
  | _, _, _, .set h q s z n => .set (e _ _ h) (p _ q) s z n
  | _, _, _, .scr h => .scr (h.mono e)
  | _, _, _, .pin h q => .pin (e _ _ h) (p _ q)
  | _, _, _, .err g h q i => .err g (e _ _ h) (p _ q) (e _ _ i)
theorem Reps.mono (e : Same H H') (p : ∀ a, P a → P' a) : ∀ {ds : List D} {vs : List V} {as : List Addr}, Reps K w P H ds vs as → Reps K w P' H' ds vs as
  | _, _, _, .nil => .nil
  | _, _, _, .cons a b => .cons (Rep.mono e p a) (Reps.mono e p b)
theorem EReps.mono (e : Same H H') (p : ∀ a, P a → P' a) : ∀ {es : List DictEntry} {kvs : List (D × D)} {as : List Addr}, EReps K w P H es kvs as → EReps K w P' H' es kvs as
  | _, _, _, .enil => .enil
  | _, _, _, .econs ik rk rkk hh rv a b => .econs ik rk (Rep.mono e p rkk) hh rv (Rep.mono e p a) (EReps.mono e p b)
end
mutual
/-- all is frozen: what was owned is told to be frozen -/
theorem Rep.fz (p : ∀ a, P a → P' a) : ∀ {d : D} {v : V} {as : List Addr}, Rep K w P H d v as → (∀ a ∈ as, P' a) → Rep K w P' H d.fz v []
  | _, _, _, .non, _ => .non
  | _, _, _, .bl b, _ => .bl b
  | _, _, _, .int i, _ => .int i
  | _, _, _, .str x, _ => .str x
  | _, _, _, .tup h r, q => by simp only [D.fz]; exact .tup h (Reps.fz p r q)
  | _, _, _, .lstF h r, _ => by simp only [D.fz]; exact .lstF (h.mono (.refl _) p) (Reps.fz p r (fun _ z => nomatch z))
  | _, _, _, .lstO h r, q => by simp only [D.fz]; exact .lstF ⟨h, q _ List.mem_cons_self⟩ (Reps.fz p r fun a z => q a (List.mem_cons_of_mem _ z))
  | _, _, _, .dicF h k s z r n, _ => by simp only [D.fz]; exact .dicF h (p _ k) s z (EReps.fz p r (fun _ z => nomatch z)) (by rw [fzp_eq, List.map_map]; exact n)
  | _, _, _, .dicO h s z r n, q => by simp only [D.fz]; exact .dicF h (q _ List.mem_cons_self) s z (EReps.fz p r fun a z => q a (List.mem_cons_of_mem _ z)) (by rw [fzp_eq, List.map_map]; exact n)
  | _, _, _, .set h k s z n, _ => by simp only [D.fz]; exact .set h (p _ k) s z n
  | _, _, _, .scr h, _ => by simp only [D.fz]; exact .scr h
  | _, _, _, .pin h q, _ => by simp only [D.fz]; exact .pin h (p _ q)
  | _, _, _, .err g h q i, _ => by simp only [D.fz]; exact .err g h (p _ q) i
theorem Reps.fz (p : ∀ a, P a → P' a) : ∀ {ds : List D} {vs : List V} {as : List Addr}, Reps K w P H ds vs as → (∀ a ∈ as, P' a) → Reps K w P' H (fzs ds) vs []
  | _, _, _, .nil, _ => by simp only [fzs]; exact .nil
  | _, _, _, .cons a b, q => by simp only [fzs]; exact .cons (as := []) (bs := []) (Rep.fz p a fun x z => q x (List.mem_append_left _ z)) (Reps.fz p b fun x z => q x (List.mem_append_right _ z))
theorem EReps.fz (p : ∀ a, P a → P' a) : ∀ {es : List DictEntry} {kvs : List (D × D)} {as : List Addr}, EReps K w P H es kvs as → (∀ a ∈ as, P' a) → EReps K w P' H es (fzp kvs) []
  | _, _, _, .enil, _ => by simp only [fzp]; exact .enil
  | _, _, _, .econs ik rk rkk hh rv a b, q => by
    simp only [fzp]
    exact .econs (as := []) (bs := []) ik rk (rkk.mono (fun _ _ z => z) p) hh rv (Rep.fz p a fun x z => q x (List.mem_append_left _ z)) (EReps.fz p b fun x z => q x (List.mem_append_right _ z))
end
def Ob (H : Hp) (a : Addr) : Prop := (∃ vs, H a = some (.lst vs)) ∨ ∃ es ep, H a = some (.ext (dphi a es ep))
mutual
/-- the owned addresses stand in the heap, and hold a list or a dict -/
theorem Rep.there : ∀ {d : D} {v : V} {as : List Addr}, Rep K w P H d v as → ∀ a ∈ as, Ob H a
  | _, _, _, .non, a, z => nomatch z
  | _, _, _, .bl b, a, z => nomatch z
  | _, _, _, .int i, a, z => nomatch z
  | _, _, _, .str x, a, z => nomatch z
  | _, _, _, .tup h r, a, z => Reps.there r a z
  | _, _, _, .lstF h r, a, z => nomatch z
  | _, _, _, .lstO h r, a, z => by
    rcases List.mem_cons.mp z with rfl | z
    · exact .inl ⟨_, h⟩
    · exact Reps.there r a z
  | _, _, _, .dicF h k s _ r n, a, z => nomatch z
  | _, _, _, .dicO h s _ r n, a, z => by
    rcases List.mem_cons.mp z with rfl | z
    · exact .inr ⟨_, _, h⟩
    · exact EReps.there r a z
  | _, _, _, .set h k s _ n, a, z => nomatch z
  | _, _, _, .scr h, a, z => nomatch z
  | _, _, _, .pin h q, a, z => nomatch z
  | _, _, _, .err g h q i, a, z => nomatch z
theorem Reps.there : ∀ {ds : List D} {vs : List V} {as : List Addr}, Reps K w P H ds vs as → ∀ a ∈ as, Ob H a
  | _, _, _, .nil, a, z => nomatch z
  | _, _, _, .cons x y, a, z => (List.mem_append.mp z).elim (Rep.there x a) (Reps.there y a)
theorem EReps.there : ∀ {es : List DictEntry} {kvs : List (D × D)} {as : List Addr}, EReps K w P H es kvs as → ∀ a ∈ as, Ob H a
  | _, _, _, .enil, a, z => nomatch z
  | _, _, _, .econs ik rk rkk hh rv x y, a, z => (List.mem_append.mp z).elim (Rep.there x a) (EReps.there y a)
end
theorem Ob.some {a : Addr} (h : Ob H a) : ∃ o, H a = some o := by
  rcases h with ⟨_, h⟩ | ⟨_, _, h⟩
  · exact ⟨_, h⟩
  · exact ⟨_, h⟩
/-- what is known where the thing at x is written -/
structure Wr (P : Addr → Prop) (H : Hp) (x : Addr) : Prop where
  ob : Ob H x
  np : ¬ P x
theorem Wr.tup {x a : Addr} {ts : List V} (W : Wr P H x) (h : H a = some (.tup ts)) : a ≠ x := fun z => by
  subst z
  rcases W.ob with ⟨_, q⟩ | ⟨_, _, q⟩
  · rw [q] at h; cases h
  · rw [q] at h; cases h
theorem Wr.xd {x a : Addr} {fs : List (Str × V)} (W : Wr P H x) (h : H a = some (.xd fs)) : a ≠ x := fun z => by
  subst z
  rcases W.ob with ⟨_, q⟩ | ⟨_, _, q⟩
  · rw [q] at h; cases h
  · rw [q] at h; cases h
theorem Wr.set {x a : Addr} {S : Int → Bool} {n : Nat} (W : Wr P H x) (h : H a = some (.set S n)) : a ≠ x := fun z => by
  subst z
  rcases W.ob with ⟨_, q⟩ | ⟨_, _, q⟩
  · rw [q] at h; cases h
  · rw [q] at h; cases h
theorem Wr.scr {x a : Addr} {o : HO} {vs : List V} (W : Wr P H x) (h : Scr K H a vs) : Scr K (L2.upd H x o) a vs := by
  rcases h with ⟨ob, h⟩ | h
  · refine .inl ⟨ob, ?_⟩
    rw [upd_ne]
    · exact h
    · intro z
      subst z
      rcases W.ob with ⟨_, q⟩ | ⟨_, _, q⟩
      · rw [q] at h; cases h
      · rw [q] at h; cases h
  · exact .inr h
theorem Wr.ne {x a : Addr} (W : Wr P H x) (h : P a) : a ≠ x := fun z => by subst z; exact W.np h
theorem Wr.sq {x a : Addr} {o : HO} {vs : List V} (z : a ≠ x) (h : SqL K H a vs) : SqL K (L2.upd H x o) a vs := by
  rcases h with (h | ⟨ob, h⟩) | h
  · exact .inl (.inl (by rw [upd_ne z]; exact h))
  · exact .inl (.inr ⟨ob, by rw [upd_ne z]; exact h⟩)
  · exact .inr h
mutual
/-- the thing at x is written: what is not of x stays -/
theorem Rep.upd {x : Addr} {o : HO} (W : Wr P H x) : ∀ {d : D} {v : V} {as : List Addr}, Rep K w P H d v as → x ∉ as → Rep K w P (L2.upd H x o) d v as
  | _, _, _, .non, _ => .non
  | _, _, _, .bl b, _ => .bl b
  | _, _, _, .int i, _ => .int i
  | _, _, _, .str x, _ => .str x
  | _, _, _, .tup h r, q => .tup (by rw [upd_ne (W.tup h)]; exact h) (Reps.upd W r q)
  | _, _, _, .lstF h r, _ => .lstF (h.upd W.np) (Reps.upd W r (fun z => nomatch z))
  | _, _, _, .lstO h r, q => .lstO (by rw [upd_ne (fun z => q (by rw [z]; exact List.mem_cons_self))]; exact h) (Reps.upd W r fun z => q (List.mem_cons_of_mem _ z))
  | _, _, _, .dicF h k s z r n, _ => .dicF (by rw [upd_ne (W.ne k)]; exact h) k s z (EReps.upd W r (fun z => nomatch z)) n
  | _, _, _, .dicO h s z r n, q => .dicO (by rw [upd_ne (fun z => q (by rw [z]; exact List.mem_cons_self))]; exact h) s z (EReps.upd W r fun z => q (List.mem_cons_of_mem _ z)) n
  | _, _, _, .set h k s z n, _ => .set (by rw [upd_ne (W.set h)]; exact h) k s z n
  | _, _, _, .scr h, _ => .scr (W.scr h)
  | _, _, _, .pin h q, _ => .pin (by rw [upd_ne (W.ne q)]; exact h) q
  | _, _, _, .err g h q i, _ => .err g (by rw [upd_ne (W.ne q)]; exact h) q (by rw [upd_ne (W.xd i)]; exact i)
theorem Reps.upd {x : Addr} {o : HO} (W : Wr P H x) : ∀ {ds : List D} {vs : List V} {as : List Addr}, Reps K w P H ds vs as → x ∉ as → Reps K w P (L2.upd H x o) ds vs as
  | _, _, _, .nil, _ => .nil
  | _, _, _, .cons a b, q => .cons (Rep.upd W a fun z => q (List.mem_append_left _ z)) (Reps.upd W b fun z => q (List.mem_append_right _ z))
theorem EReps.upd {x : Addr} {o : HO} (W : Wr P H x) : ∀ {es : List DictEntry} {kvs : List (D × D)} {as : List Addr}, EReps K w P H es kvs as → x ∉ as → EReps K w P (L2.upd H x o) es kvs as
  | _, _, _, .enil, _ => .enil
  | _, _, _, .econs ik rk rkk hh rv a b, q => .econs ik rk (Rep.upd W rkk (fun z => nomatch z)) hh rv (Rep.upd W a fun z => q (List.mem_append_left _ z)) (EReps.upd W b fun z => q (List.mem_append_right _ z))
end
mutual
/-- what is clean does not hang on what is frozen -/
theorem Rep.unP : ∀ {d : D} {v : V} {as : List Addr}, Rep K w P H d v as → d.clean = true → Rep K w P' H d v as
  | _, _, _, .non, _ => .non
  | _, _, _, .bl b, _ => .bl b
  | _, _, _, .int i, _ => .int i
  | _, _, _, .str x, _ => .str x
  | _, _, _, .tup h r, q => .tup h (Reps.unP r (by simpa only [D.clean] using q))
  | _, _, _, .lstF h r, q => by simp [D.clean] at q
  | _, _, _, .lstO h r, q => .lstO h (Reps.unP r (by simpa only [D.clean, Bool.true_and] using q))
  | _, _, _, .dicF h k s z r n, q => by simp [D.clean] at q
  | _, _, _, .dicO h s z r n, q => .dicO h s z (EReps.unP r (by simpa only [D.clean, Bool.true_and] using q)) n
  | _, _, _, .set h k s z n, q => by simp [D.clean] at q
  | _, _, _, .scr h, q => .scr h
  | _, _, _, .pin h k, q => by simp [D.clean] at q
  | _, _, _, .err g h k i, q => by simp [D.clean] at q
theorem Reps.unP : ∀ {ds : List D} {vs : List V} {as : List Addr}, Reps K w P H ds vs as → cleans ds = true → Reps K w P' H ds vs as
  | _, _, _, .nil, _ => .nil
  | _, _, _, .cons a b, q => by
    simp only [cleans, Bool.and_eq_true] at q
    exact .cons (Rep.unP a q.1) (Reps.unP b q.2)
theorem EReps.unP : ∀ {es : List DictEntry} {kvs : List (D × D)} {as : List Addr}, EReps K w P H es kvs as → cleanp kvs = true → EReps K w P' H es kvs as
  | _, _, _, .enil, _ => .enil
  | _, _, _, .econs ik rk rkk hh rv a b, q => by
    simp only [cleanp, Bool.and_eq_true] at q
    exact .econs ik rk (Rep.unP rkk (key_clean ik)) hh rv (Rep.unP a q.1) (EReps.unP b q.2)
end
mutual
/-- what is frozen owns nothing -/
theorem Rep.fz_nil : ∀ {d : D} {v : V} {as : List Addr}, Rep K w P H d.fz v as → as = []
  | .non, _, _, h => by rw [D.fz] at h; cases h; rfl
  | .bl _, _, _, h => by rw [D.fz] at h; cases h; rfl
  | .int _, _, _, h => by rw [D.fz] at h; cases h; rfl
  | .str _, _, _, h => by rw [D.fz] at h; cases h; rfl
  | .tup xs, _, _, h => by
    rw [D.fz] at h
    cases h with
    | tup _ r => exact Reps.fz_nil (ds := xs) r
  | .lst _ xs, _, _, h => by rw [D.fz] at h; cases h; rfl
  | .dic _ xs, _, _, h => by rw [D.fz] at h; cases h; rfl
  | .set _, _, _, h => by rw [D.fz] at h; cases h; rfl
  | .scr _, _, _, h => by rw [D.fz] at h; cases h; rfl
  | .pin _ _ _, _, _, h => by rw [D.fz] at h; cases h; rfl
  | .err _ _, _, _, h => by rw [D.fz] at h; cases h; rfl
theorem Reps.fz_nil : ∀ {ds : List D} {vs : List V} {as : List Addr}, Reps K w P H (fzs ds) vs as → as = []
  | [], _, _, h => by rw [fzs] at h; cases h; rfl
  | d :: ds, _, _, h => by
    rw [fzs] at h
    cases h with
    | cons a b => rw [Rep.fz_nil (d := d) a, Reps.fz_nil (ds := ds) b]; rfl
end
end
end DL

set_option Elab.async false
set_option linter.all false
set_option maxRecDepth 100000
namespace DL
open PySem PySem.Spec L2
open PyProof.Rows hiding St

/-- what an expression comes to -/
inductive ER where
  | val (d : D) | exc (c : Str) (n : Int) | stuck
inductive LR where
  | vals (ds : List D) | exc (c : Str) (n : Int) | stuck
abbrev Env := List (Option D)
abbrev Ev := Env → ER
abbrev Lv := Env → LR

/-- an own error of the class c with the number n -/
def XRep (mg : Str → Option Value) (H : Hp) (cls : Value) (d : Option Addr) (c : Str) (n : Int) : Prop :=
  ∃ C dx, mg c = some (.ref C) ∧ cls = .ref C ∧ d = some dx ∧ H dx = some (.xd [(("at" : Str), .int n)])
theorem XRep.mono {mg : Str → Option Value} {H H' : Hp} {cls : Value} {d : Option Addr} {c : Str} {n : Int} (x : XRep mg H cls d c n) (e : Same H H') : XRep mg H' cls d c n := by
  obtain ⟨C, dx, a, b, h, q⟩ := x
  exact ⟨C, dx, a, b, h, e _ _ q⟩

/-- the heap grows from H to H', what is frozen from P to P': by things of as, and new ones -/
structure Grow (P P' : Addr → Prop) (as : List Addr) (H H' : Hp) : Prop where
  same : Same H H'
  le : ∀ a, P a → P' a
  new : ∀ a, P' a → P a ∨ a ∈ as ∨ (H a = none ∧ ∃ o, H' a = some o)
structure Own (P : Addr → Prop) (as : List Addr) : Prop where
  nd : as.Nodup
  np : ∀ a ∈ as, ¬ P a
theorem Own.nil {P : Addr → Prop} : Own P [] := ⟨.nil, fun _ z => nomatch z⟩
section
variable (K : PySem.W.Frag) (w : World)
def Out (P : Addr → Prop) (as : List Addr) (H H' : Hp) (r : D) (v : V) : Prop :=
  ∃ P' as', Grow P P' as H H' ∧ Rep K w P' H' r v as' ∧ Own P' as' ∧ ∀ a ∈ as', a ∈ as ∨ H a = none
def OutL (P : Addr → Prop) (as : List Addr) (H H' : Hp) (rs : List D) (vs : List V) : Prop :=
  ∃ P' as', Grow P P' as H H' ∧ Reps K w P' H' rs vs as' ∧ Own P' as' ∧ ∀ a ∈ as', a ∈ as ∨ H a = none
/-- what is frozen stands in the heap -/
def Fz (P : Addr → Prop) (H : Hp) : Prop := ∀ a, P a → ∃ o, H a = some o
/-- the slots of rd, read -/
structure View (P : Addr → Prop) (H : Hp) (rd : List Nat) (ρ : Env) (σ : St) : Prop where
  fz : Fz P H
  len : ρ.length = σ.length
  get : ∀ i ∈ rd, ∀ d, ρ[i]? = some (some d) → ∃ v, σ[i]? = some (some v) ∧ Rep K w P H d.fz v []
end
section
variable {K : PySem.W.Frag} {w : World} {P P' : Addr → Prop} {H H' H1 H2 : Hp} {as : List Addr} {r : D} {v : V} {rs : List D} {vs : List V}
theorem Grow.refl : Grow P P as H H := ⟨.refl _, fun _ h => h, fun _ h => .inl h⟩
theorem Grow.of_same (e : Same H H') : Grow P P as H H' := ⟨e, fun _ h => h, fun _ h => .inl h⟩
theorem View.mono {rd rd' : List Nat} {ρ : Env} {σ : St} (h : View K w P H rd ρ σ) (e : Same H H') (s : ∀ i ∈ rd', i ∈ rd) : View K w P H' rd' ρ σ := ⟨fun a q => by obtain ⟨o, z⟩ := h.fz a q; exact ⟨o, e _ _ z⟩, h.len, fun i hi d hd => by
  obtain ⟨v, a, b⟩ := h.get i (s i hi) d hd
  exact ⟨v, a, b.mono e fun _ z => z⟩⟩
theorem View.same {rd : List Nat} {ρ : Env} {σ : St} (h : View K w P H rd ρ σ) (e : Same H H') : View K w P H' rd ρ σ := h.mono e fun _ z => z
theorem View.left {rd rd' : List Nat} {ρ : Env} {σ : St} (h : View K w P H (rd ++ rd') ρ σ) : View K w P H rd ρ σ := h.mono (.refl _) fun _ z => List.mem_append_left _ z
theorem View.right {rd rd' : List Nat} {ρ : Env} {σ : St} (h : View K w P H (rd ++ rd') ρ σ) : View K w P H rd' ρ σ := h.mono (.refl _) fun _ z => List.mem_append_right _ z
theorem Out.same (o : Out K w P as H H' r v) : Same H H' := let ⟨_, _, g, _⟩ := o; g.same
theorem OutL.same (o : OutL K w P as H H' rs vs) : Same H H' := let ⟨_, _, g, _⟩ := o; g.same
/-- something that is carried by value -/
theorem Out.plain (e : Same H H') (h : Rep K w P H' r v []) : Out K w P as H H' r v := ⟨P, [], .of_same e, h, .nil, fun _ z => nomatch z⟩
theorem OutL.nil : OutL K w P [] H H [] [] := ⟨P, [], .refl, .nil, .nil, fun _ z => nomatch z⟩
/-- one thing, then others -/
theorem Out.cons (a : Out K w P [] H H1 r v) (b : OutL K w P [] H1 H2 rs vs) : OutL K w P [] H H2 (r :: rs) (v :: vs) := by
  obtain ⟨P1, a1, g1, r1, o1, n1⟩ := a
  obtain ⟨P2, a2, g2, r2, o2, n2⟩ := b
  have e2 := g2.same
  have th := r1.there
  have al1 : ∀ x ∈ a1, H1 x ≠ none := fun x hx q => by obtain ⟨o, ho⟩ := (th x hx).some; rw [q] at ho; cases ho
  have fr2 : ∀ x ∈ a2, H1 x = none := fun x hx => (n2 x hx).elim (fun z => nomatch z) id
  have fr1 : ∀ x ∈ a1, H x = none := fun x hx => (n1 x hx).elim (fun z => nomatch z) id
  refine ⟨fun x => P1 x ∨ P2 x, a1 ++ a2, ⟨g1.same.trans e2, fun x h => .inl (g1.le x h), fun x h => ?_⟩, .cons (r1.mono e2 fun _ h => .inl h) (r2.mono (.refl _) fun _ h => .inr h), ⟨?_, fun x hx => ?_⟩, fun x hx => ?_⟩
  · rcases h with h | h
    · rcases g1.new x h with z | z | ⟨z, o, q⟩
      · exact .inl z
      · cases z
      · exact .inr (.inr ⟨z, o, e2 _ _ q⟩)
    · rcases g2.new x h with z | z | ⟨z, o, q⟩
      · exact .inl z
      · cases z
      · exact .inr (.inr ⟨g1.same.free z, o, q⟩)
  · exact List.nodup_append.mpr ⟨o1.nd, o2.nd, fun x hx y hy e => by subst e; exact al1 x hx (fr2 x hy)⟩
  · rcases List.mem_append.mp hx with hx | hx
    · rintro (h | h)
      · exact o1.np x hx h
      · rcases g2.new x h with z | z | ⟨z, _⟩
        · exact o1.np x hx (g1.le x z)
        · cases z
        · exact al1 x hx z
    · rintro (h | h)
      · rcases g1.new x h with z | z | ⟨z, o, q⟩
        · exact o2.np x hx (g2.le x z)
        · cases z
        · rw [fr2 x hx] at q; cases q
      · exact o2.np x hx h
  · rcases List.mem_append.mp hx with hx | hx
    · exact .inr (fr1 x hx)
    · exact .inr (g1.same.free (fr2 x hx))
/-- from the things that were made to what is made of them -/
theorem OutL.comb {P1 : Addr → Prop} {a1 : List Addr} (g : Grow P P1 [] H H1) (f : ∀ x ∈ a1, H x = none) (th : ∀ x ∈ a1, ∃ o, H1 x = some o) (b : Out K w P1 a1 H1 H2 r v) : Out K w P [] H H2 r v := by
  obtain ⟨P2, a2, g2, r2, o2, n2⟩ := b
  refine ⟨P2, a2, ⟨g.same.trans g2.same, fun x h => g2.le x (g.le x h), fun x h => ?_⟩, r2, o2, fun x hx => .inr ?_⟩
  · rcases g2.new x h with z | z | ⟨z, o, q⟩
    · rcases g.new x z with z | z | ⟨z, o, q⟩
      · exact .inl z
      · cases z
      · exact .inr (.inr ⟨z, o, g2.same _ _ q⟩)
    · obtain ⟨o, ho⟩ := th x z
      exact .inr (.inr ⟨f x z, o, g2.same _ _ ho⟩)
    · exact .inr (.inr ⟨g.same.free z, o, q⟩)
  · rcases n2 x hx with z | z
    · exact f x z
    · exact g.same.free z
end

/-- the letters of a context -/
structure Lt where
  K : PySem.W.Frag
  w : World
  mg : Str → Option Value
  W : WX
abbrev lt (X : Cx) (W : WX) : Lt := ⟨X.K, X.w, X.mg, W⟩
/-- an error flies -/
def Fly (L : Lt) (c : Str) (n : Int) (σ : St) (H : Hp) : Prop := ∀ cls d H', Same H H' → XRep L.mg H' cls d c n → L.W cls d σ H'
def tE (L : Lt) (rd : List Nat) (f : Ev) : TE := fun σ H Q => ∃ ρ P, View L.K L.w P H rd ρ σ ∧ match f ρ with
  | .val r => ∀ v H', Out L.K L.w P [] H H' r v → Q v H'
  | .exc c n => Fly L c n σ H
  | .stuck => False
def tAr (L : Lt) (rd : List Nat) (f : Lv) : TA := fun σ H Q => ∃ ρ P, View L.K L.w P H rd ρ σ ∧ match f ρ with
  | .vals rs => ∀ vs H', OutL L.K L.w P [] H H' rs vs → Q vs H'
  | .exc c n => Fly L c n σ H
  | .stuck => False
def tT (L : Lt) (rd : List Nat) (f : Ev) : TT := fun σ H Q => ∃ ρ P, View L.K L.w P H rd ρ σ ∧ match f ρ with
  | .val (.bl b) => ∀ H', Same H H' → Q b H'
  | .val _ => False
  | .exc c n => Fly L c n σ H
  | .stuck => False
theorem Fly.same {L : Lt} {c : Str} {n : Int} {σ : St} {H H' : Hp} (h : Fly L c n σ H) (e : Same H H') : Fly L c n σ H' := fun cls d H2 e2 x => h cls d H2 (e.trans e2) x
/-- what a rule wants of its context -/
structure Dx (X : Cx) (W : WX) (k : Nat) : Prop where
  tk : Takes X W
  calm : X.calm = true
  nd : X.N.Nodup
  gd : X.A.guards = some []
  rm : Room k X.A
abbrev DE (X : Cx) (W : WX) (e : Expr) (rd : List Nat) (f : Ev) : Prop := PE X e (tE (lt X W) rd f)
abbrev DA (X : Cx) (W : WX) (es : List Expr) (rd : List Nat) (f : Lv) : Prop := PA X es (tAr (lt X W) rd f)
abbrev DT (X : Cx) (W : WX) (e : Expr) (rd : List Nat) (f : Ev) : Prop := PT X e (tT (lt X W) rd f)

theorem PEi {X : Cx} {e : Expr} {t t' : TE} (h : PE X e t) (i : ∀ σ H Q, t' σ H Q → t σ H Q) : PE X e t' := ⟨fun pins s σ H Q I q => h.run pins s σ H Q I (i σ H Q q)⟩
theorem PTi {X : Cx} {e : Expr} {t t' : TT} (h : PT X e t) (i : ∀ σ H Q, t' σ H Q → t σ H Q) : PT X e t' := ⟨fun pins s σ H Q I q => h.run pins s σ H Q I (i σ H Q q)⟩
theorem PWi {X : Cx} {e : Expr} {t t' : TT} (h : PW X e t) (i : ∀ σ H Q, t' σ H Q → t σ H Q) : PW X e t' := ⟨fun wh pins s σ H Q I q => h.run wh pins s σ H Q I (i σ H Q q)⟩
theorem PAi {X : Cx} {e : List Expr} {t t' : TA} (h : PA X e t) (i : ∀ σ H Q, t' σ H Q → t σ H Q) : PA X e t' := ⟨fun pos pins s σ H Q I q => h.run pos pins s σ H Q I (i σ H Q q)⟩

def eC (d : D) : Ev := fun _ => .val d
/-- a name, read: what it holds is another's too from now on -/
def eV (i : Nat) : Ev := fun ρ => match ρ[i]? with
  | some (some d) => .val d.fz
  | _ => .stuck
def lN : Lv := fun _ => .vals []
def lC (f : Ev) (l : Lv) : Lv := fun ρ => match f ρ with
  | .val d => match l ρ with
    | .vals ds => .vals (d :: ds)
    | .exc c n => .exc c n
    | .stuck => .stuck
  | .exc c n => .exc c n
  | .stuck => .stuck
/-- g of the arguments -/
def eA (g : List D → ER) (l : Lv) : Ev := fun ρ => match l ρ with
  | .vals ds => g ds
  | .exc c n => .exc c n
  | .stuck => .stuck
/-- a def's call: what is passed in is another's too -/
def eF (F : List D → ER) (l : Lv) : Ev := eA (fun ds => F (fzs ds)) l
def eIf (t a b : Ev) : Ev := fun ρ => match t ρ with
  | .val (.bl c) => if c = true then a ρ else b ρ
  | .exc c n => .exc c n
  | _ => .stuck
def eAnd (a b : Ev) : Ev := fun ρ => match a ρ with
  | .val (.bl c) => if c = true then b ρ else .val (.bl false)
  | .exc c n => .exc c n
  | _ => .stuck
def eOr (a b : Ev) : Ev := fun ρ => match a ρ with
  | .val (.bl c) => if c = true then .val (.bl true) else b ρ
  | .exc c n => .exc c n
  | _ => .stuck
def eNot (a : Ev) : Ev := fun ρ => match a ρ with
  | .val (.bl c) => .val (.bl (!c))
  | .exc c n => .exc c n
  | _ => .stuck

section
variable {X : Cx} {W : WX} {a b c e : Expr} {es : List Expr} {pos : Pos} {f f1 f2 f3 : Ev} {l : Lv} {r1 r2 r3 rd : List Nat}

theorem Grow.fz {P P' : Addr → Prop} {as : List Addr} {H H' : Hp} (g : Grow P P' as H H') (z : Fz P H) (th : ∀ a ∈ as, ∃ o, H a = some o) : Fz P' H' := fun a q => by
  rcases g.new a q with q | q | ⟨_, q⟩
  · obtain ⟨o, h⟩ := z a q; exact ⟨o, g.same _ _ h⟩
  · obtain ⟨o, h⟩ := th a q; exact ⟨o, g.same _ _ h⟩
  · exact q
/-- a constant -/
theorem de_c {d : D} {v : V} (h : PE X e (tC v)) (r : ∀ P H, Rep X.K X.w P H d v []) : DE X W e [] (eC d) :=
  PEi h fun σ H Q ⟨ρ, P, _, q⟩ => q v H (.plain (.refl _) (r P H))
theorem de_int {i j pos} : DE X W (.Constant (.int i) j pos) [] (eC (.int i)) := de_c pe_int fun _ _ => .int i
theorem de_bl {b j pos} : DE X W (.Constant (.bool b) j pos) [] (eC (.bl b)) := de_c pe_bl fun _ _ => .bl b
theorem de_non {j pos} : DE X W (.Constant .none j pos) [] (eC .non) := de_c pe_non fun _ _ => .non
theorem de_str {x j pos} : DE X W (.Constant (.str x) j pos) [] (eC (.str x)) := de_c pe_str fun _ _ => .str x
/-- a name of the def -/
theorem de_v {i : Nat} (h : PE X e (tVar i)) : DE X W e [i] (eV i) := PEi h fun σ H Q ⟨ρ, P, vw, q⟩ => by
  unfold eV at q
  split at q
  · rename_i r hr
    split at hr
    · rename_i d hd
      cases hr
      obtain ⟨v, hv, rv⟩ := vw.get i List.mem_cons_self d hd
      exact ⟨v, hv, q v H (.plain (.refl _) rv)⟩
    · cases hr
  · rename_i hr
    split at hr <;> cases hr
  · exact q.elim

theorem da_nil : DA X W [] [] lN := PAi pa_nil fun σ H Q ⟨ρ, P, _, q⟩ => q [] H .nil
theorem tcons_of {L : Lt} {σ : St} {H : Hp} {Q : List V → Hp → Prop} (h : tAr L (r1 ++ r2) (lC f l) σ H Q) : tCons (tE L r1 f) (tAr L r2 l) σ H Q := by
  obtain ⟨ρ, P, vw, q⟩ := h
  refine ⟨ρ, P, vw.left, ?_⟩
  unfold lC at q
  cases hf : f ρ with
  | val d =>
    intro v H1 o1
    refine ⟨ρ, P, (vw.right).same o1.same, ?_⟩
    rw [hf] at q
    cases hl : l ρ with
    | vals ds =>
      intro vs H2 o2
      rw [hl] at q
      exact q _ _ (o1.cons o2)
    | exc c n => rw [hl] at q; exact q.same o1.same
    | stuck => rw [hl] at q; exact q
  | exc c n => rw [hf] at q; exact q
  | stuck => rw [hf] at q; exact q
theorem da_cons (ha : DE X W e r1 f) (hr : DA X W es r2 l) (hs : starEach (e :: es) X.env = (false, eval e X.env) :: starEach es X.env := by rfl) : DA X W (e :: es) (r1 ++ r2) (lC f l) :=
  PAi (pa_cons ha hr hs) fun σ H Q h => tcons_of h

/-- a rule on values: g of the things ds -/
def rD (K : PySem.W.Frag) (w : World) (g : List D → ER) : List V → Hp → VK → Prop := fun vs H Q => ∃ P as ds r, Fz P H ∧ Reps K w P H ds vs as ∧ Own P as ∧ g ds = .val r ∧ ∀ v H', Out K w P as H H' r v → Q v H'
/-- g does not raise -/
def NoX (g : List D → ER) : Prop := ∀ ds c n, g ds ≠ .exc c n
theorem tA_of {L : Lt} {g : List D → ER} (ng : NoX g) {σ : St} {H : Hp} {Q : VK} (h : tE L rd (eA g l) σ H Q) : tAr L rd l σ H fun vs H1 => rD L.K L.w g vs H1 Q := by
  obtain ⟨ρ, P, vw, q⟩ := h
  refine ⟨ρ, P, vw, ?_⟩
  unfold eA at q
  cases hl : l ρ with
  | vals ds =>
    rw [hl] at q
    intro vs H1 o1
    obtain ⟨P1, a1, g1, r1, w1, n1⟩ := o1
    cases hg : g ds with
    | val r =>
      simp only [hg] at q
      exact ⟨P1, a1, ds, r, g1.fz vw.fz (fun _ z => nomatch z), r1, w1, hg, fun v H' o => q v H' (OutL.comb g1 (fun x hx => (n1 x hx).elim (fun z => nomatch z) id) (fun x hx => (r1.there x hx).some) o)⟩
    | exc c n => exact absurd hg (ng ds c n)
    | stuck => simp only [hg] at q
  | exc c n => rw [hl] at q; exact q
  | stuck => rw [hl] at q; exact q
/-- two operands in a row -/
theorem seq2 {L : Lt} {σ : St} {H : Hp} {R : V → V → Hp → Prop} (h : tAr L (r1 ++ (r2 ++ [])) (lC f1 (lC f2 lN)) σ H fun vs H' => ∃ x y, vs = [x, y] ∧ R x y H') :
    tE L r1 f1 σ H fun x H1 => tE L r2 f2 σ H1 fun y H2 => R x y H2 := by
  have h1 := tcons_of h
  obtain ⟨ρ, P, vw, q⟩ := h1
  refine ⟨ρ, P, vw, ?_⟩
  split at q
  · intro v H1 o1
    have h2 := tcons_of (q v H1 o1)
    obtain ⟨ρ2, P2, vw2, q2⟩ := h2
    refine ⟨ρ2, P2, vw2, ?_⟩
    split at q2
    · intro v2 H2 o2
      obtain ⟨ρ3, P3, vw3, q3⟩ := q2 v2 H2 o2
      obtain ⟨x, y, e, r⟩ := q3 [] H2 .nil
      cases e
      exact r
    · exact q2
    · exact q2
  · exact q
  · exact q
end
end DL

set_option Elab.async false
set_option linter.all false
set_option maxRecDepth 100000
namespace DL
open PySem PySem.Spec L2
open PyProof.Rows hiding St
section
variable {X : Cx} {W : WX} {a b c e : Expr} {es : List Expr} {pos : Pos} {f f1 f2 f3 : Ev} {l : Lv} {r1 r2 r3 rd : List Nat}

/-- two operands, an operation on values -/
theorem seqD {L : Lt} {g : List D → ER} (ng : NoX g) {σ : St} {H : Hp} {Q : VK} (h : tE L (r1 ++ (r2 ++ [])) (eA g (lC f1 (lC f2 lN))) σ H Q) :
    tE L r1 f1 σ H fun x H1 => tE L r2 f2 σ H1 fun y H2 => rD L.K L.w g [x, y] H2 Q := seq2 (by
    have := tA_of ng h
    obtain ⟨ρ, P, vw, q⟩ := this
    refine ⟨ρ, P, vw, ?_⟩
    split at q
    · rename_i rs hrs
      intro vs H' o
      have q' := q vs H' o
      obtain ⟨P1, a1, ds, r, fz1, r1, w1, hg, k⟩ := q'
      have : ∃ x y, vs = [x, y] := by
        obtain ⟨_, _, _, rr, _⟩ := o
        have : ∃ d1 d2, rs = [d1, d2] := by
          unfold lC lN at hrs
          split at hrs
          · split at hrs
            · rename_i hq
              split at hq
              · cases hq; cases hrs; exact ⟨_, _, rfl⟩
              · cases hq
              · cases hq
            · cases hrs
            · cases hrs
          · cases hrs
          · cases hrs
        obtain ⟨d1, d2, rfl⟩ := this
        cases rr with
        | cons p1 p2 =>
          cases p2 with
          | cons p3 p4 =>
            cases p4
            exact ⟨_, _, rfl⟩
      obtain ⟨x, y, rfl⟩ := this
      exact ⟨x, y, rfl, P1, a1, ds, r, fz1, r1, w1, hg, k⟩
    · exact q
    · exact q)
/-- a rule for a two-place operation -/
abbrev Op2 (X : Cx) (f : Value → Value → Sem Value) (g : List D → ER) : Prop := OpR X f fun x y H Q => rD X.K X.w g [x, y] H Q
abbrev Op1 (X : Cx) (f : Value → Sem Value) (g : List D → ER) : Prop := UnR X f fun x H Q => rD X.K X.w g [x] H Q
abbrev CallD (X : Cx) (f : Value) (g : List D → ER) : Prop := CallR X f (rD X.K X.w g)
theorem de_op2 {op : Operator} {g : List D → ER} (ho : Op2 X (binaryOp op) g) (ng : NoX g) (ha : DE X W a r1 f1) (hb : DE X W b r2 f2) :
    DE X W (.BinOp a op b pos) (r1 ++ (r2 ++ [])) (eA g (lC f1 (lC f2 lN))) := PEi (pe_op ho ha hb) fun σ H Q h => seqD ng h
theorem de_cmp {op : CmpOp} {g : List D → ER} (ho : Op2 X (compareOp op) g) (ng : NoX g) (ha : DE X W a r1 f1) (hb : DE X W b r2 f2) (hm : behindInMarks op b = false) :
    DE X W (.Compare a [op] [b] pos) (r1 ++ (r2 ++ [])) (eA g (lC f1 (lC f2 lN))) := PEi (pe_cmpR ho ha hb hm) fun σ H Q h => seqD ng h
theorem seq1 {L : Lt} {g : List D → ER} (ng : NoX g) {σ : St} {H : Hp} {Q : VK} (h : tE L (r1 ++ []) (eA g (lC f1 lN)) σ H Q) : tE L r1 f1 σ H fun x H1 => rD L.K L.w g [x] H1 Q := by
  obtain ⟨ρ, P, vw, q⟩ := tcons_of (tA_of ng h)
  refine ⟨ρ, P, vw, ?_⟩
  split at q
  · intro v H1 o1
    obtain ⟨ρ2, P2, vw2, q2⟩ := q v H1 o1
    exact q2 [] H1 .nil
  · exact q
  · exact q
theorem de_op1 {op : UnaryOp} {g : List D → ER} (ho : Op1 X (unaryOp op) g) (ng : NoX g) (ha : DE X W a r1 f1) : DE X W (.UnaryOp op a pos) (r1 ++ []) (eA g (lC f1 lN)) :=
  PEi (pe_un ho ha) fun σ H Q h => seq1 ng h

/-- a value that is True or False -/
theorem bl_of {L : Lt} {σ : St} {H : Hp} {Q : Bool → Hp → Prop} (h : tT L rd f σ H Q) : tE L rd f σ H fun x H1 => ∃ c, x = .bl c ∧ Q c H1 := by
  obtain ⟨ρ, P, vw, q⟩ := h
  refine ⟨ρ, P, vw, ?_⟩
  cases hf : f ρ with
  | val d =>
    rw [hf] at q
    cases d with
    | bl b =>
      intro v H' o
      obtain ⟨_, _, _, r, _⟩ := id o
      cases r
      exact ⟨b, rfl, q H' o.same⟩
    | _ => exact q.elim
  | exc c n => rw [hf] at q; exact q
  | stuck => rw [hf] at q; exact q
theorem of_bl {L : Lt} {σ : St} {H : Hp} {Q : VK} (hb : ∀ ρ d, f ρ = .val d → ∃ b, d = .bl b) (h : tE L rd f σ H Q) : tT L rd f σ H fun c H1 => Q (.bl c) H1 := by
  obtain ⟨ρ, P, vw, q⟩ := h
  refine ⟨ρ, P, vw, ?_⟩
  cases hf : f ρ with
  | val d =>
    obtain ⟨b, rfl⟩ := hb ρ d hf
    rw [hf] at q
    intro H' e
    exact q _ _ (.plain e (.bl b))
  | exc c n => rw [hf] at q; exact q
  | stuck => rw [hf] at q; exact q
/-- a test whose value is a bool -/
theorem dt_val (h : DE X W e rd f) (he : ∀ whole, isTrue e X.env whole = (do let v ← whole; standAt e.pos; holding [v] (truthy v)) := by intro _; rfl) : DT X W e rd f :=
  PTi (pt_val h he) fun σ H Q q => bl_of q
theorem tTest_of {t : TE} {f : Ev} {L : Lt} {σ : St} {H : Hp} {Q : Bool → Hp → Prop} (i : ∀ σ H Q, tE L rd f σ H Q → t σ H Q) (h : tT L rd f σ H Q) : tTest t σ H Q := i _ _ _ (bl_of h)
theorem dt_cmp {op : CmpOp} {g : List D → ER} (ho : Op2 X (compareOp op) g) (ng : NoX g) (ha : DE X W a r1 f1) (hb : DE X W b r2 f2) (hm : behindInMarks op b = false) :
    DT X W (.Compare a [op] [b] pos) (r1 ++ (r2 ++ [])) (eA g (lC f1 (lC f2 lN))) := PTi (pt_cmpR ho ha hb hm) fun σ H Q h => tTest_of (fun σ H Q h => seqD ng h) h
/-- and, or, not, as tests -/
theorem and_of {L : Lt} {σ : St} {H : Hp} {Q : Bool → Hp → Prop} (h : tT L (r1 ++ r2) (eAnd f1 f2) σ H Q) : tAnd (tT L r1 f1) (tT L r2 f2) σ H Q := by
  obtain ⟨ρ, P, vw, q⟩ := h
  refine ⟨ρ, P, vw.left, ?_⟩
  unfold eAnd at q
  cases h1 : f1 ρ with
  | val d =>
    rw [h1] at q
    cases d with
    | bl b =>
      intro H1 e1
      cases b with
      | true =>
        simp only [if_true] at q ⊢
        refine ⟨ρ, P, vw.right.same e1, ?_⟩
        cases h2 : f2 ρ with
        | val d =>
          simp only [h2] at q
          cases d with
          | bl c => exact fun H' e => q H' (e1.trans e)
          | _ => exact q.elim
        | exc c n => simp only [h2] at q; exact q.same e1
        | stuck => simp only [h2] at q
      | false => simp only [Bool.false_eq_true, if_false] at q ⊢; exact q H1 e1
    | _ => exact q.elim
  | exc c n => rw [h1] at q; exact q
  | stuck => rw [h1] at q; exact q
theorem or_of {L : Lt} {σ : St} {H : Hp} {Q : Bool → Hp → Prop} (h : tT L (r1 ++ r2) (eOr f1 f2) σ H Q) : tOr (tT L r1 f1) (tT L r2 f2) σ H Q := by
  obtain ⟨ρ, P, vw, q⟩ := h
  refine ⟨ρ, P, vw.left, ?_⟩
  unfold eOr at q
  cases h1 : f1 ρ with
  | val d =>
    rw [h1] at q
    cases d with
    | bl b =>
      intro H1 e1
      cases b with
      | false =>
        simp only [Bool.false_eq_true, if_false] at q ⊢
        refine ⟨ρ, P, vw.right.same e1, ?_⟩
        cases h2 : f2 ρ with
        | val d =>
          simp only [h2] at q
          cases d with
          | bl c => exact fun H' e => q H' (e1.trans e)
          | _ => exact q.elim
        | exc c n => simp only [h2] at q; exact q.same e1
        | stuck => simp only [h2] at q
      | true => simp only [if_true] at q ⊢; exact q H1 e1
    | _ => exact q.elim
  | exc c n => rw [h1] at q; exact q
  | stuck => rw [h1] at q; exact q
abbrev DW (X : Cx) (W : WX) (e : Expr) (rd : List Nat) (f : Ev) : Prop := PW X e (tT (lt X W) rd f)
theorem dw_and1 (ha : DT X W a r1 f1) : DW X W (.BoolOp .And [a] pos) r1 f1 := pw_and1 ha
theorem dw_or1 (ha : DT X W a r1 f1) : DW X W (.BoolOp .Or [a] pos) r1 f1 := pw_or1 ha
theorem dw_and (ha : DT X W a r1 f1) (hb : DW X W (.BoolOp .And (b :: es) pos) r2 f2) : DW X W (.BoolOp .And (a :: b :: es) pos) (r1 ++ r2) (eAnd f1 f2) := PWi (pw_and ha hb) fun σ H Q h => and_of h
theorem dw_or (ha : DT X W a r1 f1) (hb : DW X W (.BoolOp .Or (b :: es) pos) r2 f2) : DW X W (.BoolOp .Or (a :: b :: es) pos) (r1 ++ r2) (eOr f1 f2) := PWi (pw_or ha hb) fun σ H Q h => or_of h
theorem not_of' {L : Lt} {σ : St} {H : Hp} {Q : Bool → Hp → Prop} (h : tT L r1 (eNot f1) σ H Q) : tT L r1 f1 σ H fun c H1 => Q (!c) H1 := by
  obtain ⟨ρ, P, vw, q⟩ := h
  refine ⟨ρ, P, vw, ?_⟩
  unfold eNot at q
  cases h1 : f1 ρ with
  | val d =>
    rw [h1] at q
    cases d with
    | bl b => exact q
    | _ => exact q.elim
  | exc c n => rw [h1] at q; exact q
  | stuck => rw [h1] at q; exact q
theorem dt_not (ha : DT X W a r1 f1) : DT X W (.UnaryOp .Not a pos) r1 (eNot f1) := PTi (pt_not ha) fun σ H Q h => not_of' h
/-- .. as values -/
theorem eAnd_bl : ∀ ρ d, (eAnd f1 f2) ρ = .val d → (∀ ρ d, f2 ρ = .val d → ∃ b, d = .bl b) → ∃ b, d = .bl b := fun ρ d h k => by
  unfold eAnd at h
  split at h
  · split at h
    · exact k ρ d h
    · cases h; exact ⟨_, rfl⟩
  · cases h
  · cases h
theorem andV_of {L : Lt} {σ : St} {H : Hp} {Q : VK} (h : tE L (r1 ++ r2) (eAnd f1 f2) σ H Q) : tAndV (tE L r1 f1) (tE L r2 f2) σ H Q := by
  obtain ⟨ρ, P, vw, q⟩ := h
  refine ⟨ρ, P, vw.left, ?_⟩
  unfold eAnd at q
  cases h1 : f1 ρ with
  | val d =>
    rw [h1] at q
    cases d with
    | bl b =>
      intro v H1 o1
      have e1 := o1.same
      obtain ⟨_, _, _, r, _⟩ := o1
      cases r
      refine ⟨b, rfl, ?_⟩
      cases b with
      | true =>
        simp only [if_true] at q ⊢
        refine ⟨ρ, P, vw.right.same e1, ?_⟩
        cases h2 : f2 ρ with
        | val d =>
          simp only [h2] at q
          exact fun v H' o => q v H' (OutL.comb (a1 := []) (.of_same e1) (fun _ z => nomatch z) (fun _ z => nomatch z) o)
        | exc c n => simp only [h2] at q; exact q.same e1
        | stuck => simp only [h2] at q
      | false => simp only [Bool.false_eq_true, if_false] at q ⊢; exact q _ H1 (.plain e1 (.bl false))
    | _ => exact q.elim
  | exc c n => rw [h1] at q; exact q
  | stuck => rw [h1] at q; exact q
theorem orV_of {L : Lt} {σ : St} {H : Hp} {Q : VK} (h : tE L (r1 ++ r2) (eOr f1 f2) σ H Q) : tOrV (tE L r1 f1) (tE L r2 f2) σ H Q := by
  obtain ⟨ρ, P, vw, q⟩ := h
  refine ⟨ρ, P, vw.left, ?_⟩
  unfold eOr at q
  cases h1 : f1 ρ with
  | val d =>
    rw [h1] at q
    cases d with
    | bl b =>
      intro v H1 o1
      have e1 := o1.same
      obtain ⟨_, _, _, r, _⟩ := o1
      cases r
      refine ⟨b, rfl, ?_⟩
      cases b with
      | false =>
        simp only [Bool.false_eq_true, if_false] at q ⊢
        refine ⟨ρ, P, vw.right.same e1, ?_⟩
        cases h2 : f2 ρ with
        | val d =>
          simp only [h2] at q
          exact fun v H' o => q v H' (OutL.comb (a1 := []) (.of_same e1) (fun _ z => nomatch z) (fun _ z => nomatch z) o)
        | exc c n => simp only [h2] at q; exact q.same e1
        | stuck => simp only [h2] at q
      | true => simp only [if_true] at q ⊢; exact q _ H1 (.plain e1 (.bl true))
    | _ => exact q.elim
  | exc c n => rw [h1] at q; exact q
  | stuck => rw [h1] at q; exact q
theorem de_one {op : BoolOp} (ha : DE X W a r1 f1) : DE X W (.BoolOp op [a] pos) r1 f1 := pe_one ha
theorem de_and (ha : DE X W a r1 f1) (hb : DE X W (.BoolOp .And (b :: es) pos) r2 f2) : DE X W (.BoolOp .And (a :: b :: es) pos) (r1 ++ r2) (eAnd f1 f2) := PEi (pe_and ha hb) fun σ H Q h => andV_of h
theorem de_or (ha : DE X W a r1 f1) (hb : DE X W (.BoolOp .Or (b :: es) pos) r2 f2) : DE X W (.BoolOp .Or (a :: b :: es) pos) (r1 ++ r2) (eOr f1 f2) := PEi (pe_or ha hb) fun σ H Q h => orV_of h
theorem de_not (ha : DE X W a r1 f1) : DE X W (.UnaryOp .Not a pos) r1 (eNot f1) := PEi (pe_not ha) fun σ H Q h => by
  obtain ⟨ρ, P, vw, q⟩ := h
  refine ⟨ρ, P, vw, ?_⟩
  unfold eNot at q
  cases h1 : f1 ρ with
  | val d =>
    rw [h1] at q
    cases d with
    | bl b =>
      intro v H1 o1
      have e1 := o1.same
      obtain ⟨_, _, _, r, _⟩ := o1
      cases r
      exact ⟨b, rfl, q _ H1 (.plain e1 (.bl _))⟩
    | _ => exact q.elim
  | exc c n => rw [h1] at q; exact q
  | stuck => rw [h1] at q; exact q
/-- a if t else b -/
theorem de_if (ht : DT X W c r1 f1) (ha : DE X W a r2 f2) (hb : DE X W b r3 f3) : DE X W (.IfExp c a b pos) (r1 ++ (r2 ++ r3)) (eIf f1 f2 f3) :=
  PEi (pe_ifExp ht ha hb) fun σ H Q h => by
    obtain ⟨ρ, P, vw, q⟩ := h
    refine ⟨ρ, P, vw.left, ?_⟩
    unfold eIf at q
    cases h1 : f1 ρ with
    | val d =>
      rw [h1] at q
      cases d with
      | bl b =>
        intro H1 e1
        have go : ∀ (rr : List Nat) (ff : Ev), View X.K X.w P H rr ρ σ → (match ff ρ with | .val r => ∀ v H', Out X.K X.w P [] H H' r v → Q v H' | .exc c n => Fly (lt X W) c n σ H | .stuck => False) → tE (lt X W) rr ff σ H1 Q := fun rr ff vv qq => by
          refine ⟨ρ, P, vv.same e1, ?_⟩
          cases h2 : ff ρ with
          | val d =>
            rw [h2] at qq
            exact fun v H' o => qq v H' (OutL.comb (a1 := []) (.of_same e1) (fun _ z => nomatch z) (fun _ z => nomatch z) o)
          | exc c n => rw [h2] at qq; exact qq.same e1
          | stuck => rw [h2] at qq; exact qq
        cases b with
        | true => simp only [if_true] at q ⊢; exact go r2 f2 vw.right.left q
        | false => simp only [Bool.false_eq_true, if_false] at q ⊢; exact go r3 f3 vw.right.right q
      | _ => exact q.elim
    | exc c n => rw [h1] at q; exact q
    | stuck => rw [h1] at q; exact q

def gTup (ds : List D) : ER := if ds.length ≤ sizeLine then .val (.tup ds) else .stuck
def gLst (ds : List D) : ER := if ds.length ≤ sizeLine then .val (.lst true ds) else .stuck
theorem NoX.tup : NoX gTup := fun ds c n h => by unfold gTup at h; split at h <;> cases h
theorem NoX.lst : NoX gLst := fun ds c n h => by unfold gLst at h; split at h <;> cases h
theorem Reps.length {K : PySem.W.Frag} {w : World} {P : Addr → Prop} {H : Hp} : ∀ {ds : List D} {vs : List V} {as : List Addr}, Reps K w P H ds vs as → ds.length = vs.length
  | _, _, _, .nil => rfl
  | _, _, _, .cons _ r => by simp [r.length]
theorem same_new {H : Hp} {p : Addr} {o : HO} (hp : H p = none) : Same H (upd H p o) := fun b u h => by rw [upd_ne (ne_of_none h hp)]; exact h
theorem de_tup {x1} (h : DA X W es rd l) : DE X W (.Tuple es x1 pos) rd (eA gTup l) := PEi (pe_tup h) fun σ H Q q => by
  obtain ⟨ρ, P, vw, k⟩ := tA_of .tup q
  refine ⟨ρ, P, vw, ?_⟩
  split at k
  · intro vs H1 o
    obtain ⟨P1, as, ds, r, _, rr, ow, hg, z⟩ := k vs H1 o
    unfold gTup at hg
    split at hg
    · rename_i hz
      cases hg
      refine ⟨by rw [← rr.length]; exact hz, fun p hp => z _ _ ⟨P1, as, .of_same (same_new hp), .tup upd_same (rr.mono (same_new hp) fun _ z => z), ow, fun _ z => .inl z⟩⟩
    · cases hg
  · exact k
  · exact k
/-- a new list of these things -/
theorem Out.newL {K : PySem.W.Frag} {w : World} {P : Addr → Prop} {H : Hp} {as : List Addr} {ds : List D} {vs : List V} {p : Addr} (hp : H p = none) (hP : ¬ P p) (rr : Reps K w P H ds vs as) (ow : Own P as) :
    Out K w P as H (upd H p (.lst vs)) (.lst true ds) (.ref p) := by
  refine ⟨P, p :: as, .of_same (same_new hp), .lstO upd_same (rr.mono (same_new hp) fun _ z => z), ⟨List.nodup_cons.mpr ⟨fun z => ?_, ow.nd⟩, fun a z => ?_⟩, fun a z => ?_⟩
  · obtain ⟨o, h⟩ := (rr.there p z).some
    rw [hp] at h; cases h
  · rcases List.mem_cons.mp z with rfl | z
    · exact hP
    · exact ow.np a z
  · rcases List.mem_cons.mp z with rfl | z
    · exact .inr hp
    · exact .inl z
theorem Fz.new {P : Addr → Prop} {H : Hp} {p : Addr} (z : Fz P H) (hp : H p = none) : ¬ P p := fun q => by
  obtain ⟨o, h⟩ := z p q
  rw [hp] at h; cases h
theorem de_lst (h : DA X W es rd l) : DE X W (.List es pos) rd (eA gLst l) := PEi (pe_lst h) fun σ H Q q => by
  obtain ⟨ρ, P, vw, k⟩ := tA_of .lst q
  refine ⟨ρ, P, vw, ?_⟩
  split at k
  · intro vs H1 o
    obtain ⟨P1, as, ds, r, fz, rr, ow, hg, z⟩ := k vs H1 o
    unfold gLst at hg
    split at hg
    · rename_i hz
      cases hg
      exact ⟨by rw [← rr.length]; exact hz, fun p hp => z _ _ (Out.newL hp (fz.new hp) rr ow)⟩
    · cases hg
  · exact k
  · exact k

theorem de_callB {x : Str} {p : Pos} {id : String} {g : List D → ER} (hc : CallD X (.builtin id) g) (ng : NoX g) (hg : Gl X x) (hm : X.mg x = none) (hv : bootBuiltins x = some (.builtin id)) (ha : DA X W (e :: es) rd l) (hn : x ≠ "__name__" := by decide) (hdb : (x == ("__debug__" : Str)) = false := by decide)
    (he : starEach (e :: es) X.env = (false, eval e X.env) :: starEach es X.env := by rfl) (hpl : (backTo pos (starEach es X.env)).any (·.1) = false := by rfl) : DE X W (.Call (.Name x p) (e :: es) [] pos) rd (eA g l) :=
  PEi (pe_callB hc hg hm hv ha hn hdb he hpl) fun σ H Q q => tA_of ng q
theorem de_callTy {x : Str} {p : Pos} {T : String} {g : List D → ER} (hc : CallD X (.type T) g) (ng : NoX g) (hg : Gl X x) (hm : X.mg x = none) (hv : bootBuiltins x = some (.type T)) (ha : DA X W (e :: es) rd l) (hn : x ≠ "__name__" := by decide) (hdb : (x == ("__debug__" : Str)) = false := by decide)
    (he : starEach (e :: es) X.env = (false, eval e X.env) :: starEach es X.env := by rfl) (hpl : (backTo pos (starEach es X.env)).any (·.1) = false := by rfl) : DE X W (.Call (.Name x p) (e :: es) [] pos) rd (eA g l) :=
  PEi (pe_callTy hc hg hm hv ha hn hdb he hpl) fun σ H Q q => tA_of ng q

/-- a def's promise: F of the things that are passed in, frozen -/
def spD (K : PySem.W.Frag) (w : World) (mg : Str → Option Value) (F : List D → ER) : Sp := fun vs H Q E => ∃ P ds, Fz P H ∧ Reps K w P H ds vs [] ∧ match F ds with
  | .val r => ∀ v H', Out K w P [] H H' r v → Q v H'
  | .exc c n => ∀ cls d H', Same H H' → XRep mg H' cls d c n → E cls d H'
  | .stuck => False
/-- room, and nothing is being shown -/
structure RoomG (k : Nat) (A : Around) : Prop where
  rm : Room k A
  gd : A.guards = some []
/-- a def that keeps a promise (FnOk, with RoomG) -/
structure FnG (P : Program) (w : World) (K : PySem.W.Frag) (mg : Str → Option Value) (base : Heap) (k : Nat) (f : Addr) (fd : FuncData) (ps : List Str) (sp : Sp) : Prop where
  len : ∀ vs H Q E, sp vs H Q E → vs.length = ps.length
  run : ∀ (A : Around) (outer : List PySem.Env) (s : Shared) (H : Hp) (args : Args) (us : List Value) (vs : List V) (Q : VK) (E : XK), RoomG k A → Env0 P w K mg base A outer s H → BindsTo s fd args (ps.zip us) → Vals vs us → sp vs H Q E →
    codeAny (model P w) A (.call (.ref f) args) (CR (L2.CX P w) outer P w H s Q E) s
theorem run_fnG {pins : List (Addr × Obj)} {σ : St} {H : Hp} {s : Shared} {Q : VK} {us : List Value} {vs : List V} {k : Nat} {f : Addr} {fd : FuncData} {ps : List Str} {sp : Sp} {E : St → XK} (F : FnG X.prog X.w X.K X.mg X.base k f fd ps sp) (hr : RoomG k X.A) (hb : Binds X.K fd ps []) (hx : PassesAt (L2.CX X.prog X.w) X σ (E σ))
    (I : Inv X pins σ H s) (r : Vals vs us) (h : sp vs H Q (E σ)) : wpAny (model X.prog X.w) X.A (call (.ref f) us) (EP X pins σ Q) X.xe s := by
  have hl : us.length = ps.length := by rw [← r.length]; exact F.len _ _ _ _ h
  have b := hb s us I.kIn (by rw [List.append_nil]; exact hl)
  rw [List.append_nil] at b
  refine wpAny_call (codeAny_mono (F.run X.A X.stack s H ⟨us, []⟩ us vs Q (E σ) hr I.env0 b r h) fun r s' hq => ?_)
  cases r with
  | error e => exact hx pins H s e s' I hq
  | ok fl =>
    cases fl with
    | ret u => exact I.after hq
    | next => exact False.elim hq
    | brk => exact False.elim hq
    | cont => exact False.elim hq
theorem pe_callG {k : Nat} {f : Addr} {fd : FuncData} {ps : List Str} {sp : Sp} {E : St → XK} {x : Str} {p : Pos} {t : TA} (F : FnG X.prog X.w X.K X.mg X.base k f fd ps sp) (hr : RoomG k X.A) (hg : Gl X x) (hm : X.mg x = some (.ref f)) (hk : PySem.W.keepIn X.K (.ref f) = true) (hb : Binds X.K fd ps []) (hx : ∀ σ, PassesAt (L2.CX X.prog X.w) X σ (E σ))
    (ha : PA X (e :: es) t) (hdb : (x == ("__debug__" : Str)) = false := by decide) (he : starEach (e :: es) X.env = (false, eval e X.env) :: starEach es X.env := by rfl) (hpl : (backTo pos (starEach es X.env)).any (·.1) = false := by rfl) :
    PE X (.Call (.Name x p) (e :: es) [] pos) (tCallS sp E t) := by
  refine ⟨fun pins s σ H Q I h => ?_⟩
  refine wpAny_Call_Name_kw (ld_glob I hg hm ?_ hdb)
  refine PySem.W.callWith_K (h₀ := X.base) I.ok.mod.kin hk (thn (ha.run pos pins s σ H _ I h) fun us s1 ⟨vs, H1, I1, r, q⟩ => ⟨I1.kIn, ?_⟩) he hpl
  exact run_fnG F hr hb (hx σ) I1 r q
/-- f(e, ..), f a def of the text -/
theorem de_call {k : Nat} {f : Addr} {fd : FuncData} {ps : List Str} {F : List D → ER} {x : Str} {p : Pos} {kk : Nat} (dx : Dx X W kk) (G : FnG X.prog X.w X.K X.mg X.base k f fd ps (spD X.K X.w X.mg F)) (hkk : k ≤ kk) (hm : X.mg x = some (.ref f)) (hk : PySem.W.keepIn X.K (.ref f) = true) (hb : Binds X.K fd ps [])
    (hg : Gl X x) (ha : DA X W (e :: es) rd l) (hdb : (x == ("__debug__" : Str)) = false := by decide) (he : starEach (e :: es) X.env = (false, eval e X.env) :: starEach es X.env := by rfl) (hpl : (backTo pos (starEach es X.env)).any (·.1) = false := by rfl) :
    DE X W (.Call (.Name x p) (e :: es) [] pos) rd (eF F l) := by
  refine ⟨fun pins s σ H Q I h => ?_⟩
  refine wpAny_Call_Name_kw (ld_glob I hg hm ?_ hdb)
  refine PySem.W.callWith_K (h₀ := X.base) I.ok.mod.kin hk ?_ he hpl
  have hx : PassesAt (L2.CX X.prog X.w) X σ (WE W σ) := passAt dx.tk σ
  obtain ⟨ρ, P, vw, q⟩ := h
  unfold eF eA at q
  -- the arguments, then the call
  refine thn (ha.run pos pins s σ H (fun vs H1 => spD X.K X.w X.mg F vs H1 Q (WE W σ)) I ⟨ρ, P, vw, ?_⟩) fun us s1 ⟨vs, H1, I1, r, q⟩ => ⟨I1.kIn, run_fnG G ⟨dx.rm.mono hkk, dx.gd⟩ hb hx I1 r q⟩
  cases hl : l ρ with
  | vals ds =>
    rw [hl] at q
    intro vs H1 o1
    obtain ⟨P1, a1, g1, rr, ow, n1⟩ := id o1
    have th : ∀ a ∈ a1, ∃ o, H1 a = some o := fun a z => (rr.there a z).some
    have fz1 : Fz P1 H1 := g1.fz vw.fz (fun _ z => nomatch z)
    refine ⟨fun a => P1 a ∨ a ∈ a1, fzs ds, fun a z => ?_, rr.fz (fun _ z => .inl z) (fun _ z => .inr z), ?_⟩
    · rcases z with z | z
      · exact fz1 a z
      · exact th a z
    · cases hF : F (fzs ds) with
      | val r =>
        simp only [hF] at q
        rintro v H' ⟨P2, a2, g2, r2, o2, n2⟩
        refine q v H' (OutL.comb g1 (fun x hx => (n1 x hx).elim (fun z => nomatch z) id) th ⟨P2, a2, ⟨g2.same, fun a z => g2.le a (.inl z), fun a z => ?_⟩, r2, o2, fun a z => .inr ((n2 a z).elim (fun z => nomatch z) id)⟩)
        rcases g2.new a z with (z | z) | z | z
        · exact .inl z
        · exact .inr (.inl z)
        · cases z
        · exact .inr (.inr z)
      | exc c n =>
        simp only [hF] at q
        exact fun cls d H' e x => q cls d H' (g1.same.trans e) x
      | stuck => simp only [hF] at q
  | exc c n => rw [hl] at q; exact q
  | stuck => rw [hl] at q; exact q
end
end DL

set_option Elab.async false
set_option linter.all false
set_option maxRecDepth 100000
namespace DL
open PySem PySem.Spec L2
open PyProof.Rows hiding St

/-- a slot's thing is known to others from now on -/
def fzAt : Nat → Env → Env
  | _, [] => []
  | 0, x :: ρ => x.map D.fz :: ρ
  | i + 1, x :: ρ => x :: fzAt i ρ
def frz : List Nat → Env → Env
  | [], ρ => ρ
  | i :: rd, ρ => frz rd (fzAt i ρ)
theorem fzAt_length : ∀ (i : Nat) (ρ : Env), (fzAt i ρ).length = ρ.length
  | _, [] => by simp [fzAt]
  | 0, x :: ρ => by simp [fzAt]
  | i + 1, x :: ρ => by simp [fzAt, fzAt_length i ρ]
theorem frz_length : ∀ (rd : List Nat) (ρ : Env), (frz rd ρ).length = ρ.length
  | [], _ => rfl
  | i :: rd, ρ => by rw [frz, frz_length rd, fzAt_length]
theorem fzAt_get : ∀ (i : Nat) (ρ : Env), (fzAt i ρ)[i]? = (ρ[i]?).map (fun x => x.map D.fz)
  | i, [] => by simp [fzAt]
  | 0, x :: ρ => by simp [fzAt]
  | i + 1, x :: ρ => by simp [fzAt, fzAt_get i ρ]
theorem fzAt_ne : ∀ (i j : Nat) (ρ : Env), j ≠ i → (fzAt i ρ)[j]? = ρ[j]?
  | i, j, [], _ => by simp [fzAt]
  | 0, 0, x :: ρ, h => absurd rfl h
  | 0, j + 1, x :: ρ, _ => by simp [fzAt]
  | i + 1, 0, x :: ρ, _ => by simp [fzAt]
  | i + 1, j + 1, x :: ρ, h => by simp [fzAt, fzAt_ne i j ρ (by omega)]

section
variable (K : PySem.W.Frag) (w : World) (P : Addr → Prop) (H : Hp)
inductive EnvRep : Env → St → List Addr → Prop
  | nil : EnvRep [] [] []
  | no {ρ : Env} {σ : St} {x : Option V} {as : List Addr} : EnvRep ρ σ as → EnvRep (none :: ρ) (x :: σ) as
  | yes {ρ : Env} {σ : St} {d : D} {v : V} {as bs : List Addr} : Rep K w P H d v as → EnvRep ρ σ bs → EnvRep (some d :: ρ) (some v :: σ) (as ++ bs)
end
section
variable {K : PySem.W.Frag} {w : World} {P P' : Addr → Prop} {H H' : Hp}
theorem EnvRep.mono (e : Same H H') (p : ∀ a, P a → P' a) : ∀ {ρ : Env} {σ : St} {as : List Addr}, EnvRep K w P H ρ σ as → EnvRep K w P' H' ρ σ as
  | _, _, _, .nil => .nil
  | _, _, _, .no r => .no (r.mono e p)
  | _, _, _, .yes a r => .yes (a.mono e p) (r.mono e p)
theorem EnvRep.length : ∀ {ρ : Env} {σ : St} {as : List Addr}, EnvRep K w P H ρ σ as → ρ.length = σ.length
  | _, _, _, .nil => rfl
  | _, _, _, .no r => by simp [r.length]
  | _, _, _, .yes a r => by simp [r.length]
theorem EnvRep.there : ∀ {ρ : Env} {σ : St} {as : List Addr}, EnvRep K w P H ρ σ as → ∀ a ∈ as, Ob H a
  | _, _, _, .nil, a, z => nomatch z
  | _, _, _, .no r, a, z => r.there a z
  | _, _, _, .yes x r, a, z => (List.mem_append.mp z).elim (x.there a) (r.there a)
theorem EnvRep.upd {x : Addr} {o : HO} (W : Wr P H x) : ∀ {ρ : Env} {σ : St} {as : List Addr}, EnvRep K w P H ρ σ as → x ∉ as → EnvRep K w P (L2.upd H x o) ρ σ as
  | _, _, _, .nil, _ => .nil
  | _, _, _, .no r, q => .no (r.upd W q)
  | _, _, _, .yes a r, q => .yes (a.upd W fun z => q (List.mem_append_left _ z)) (r.upd W fun z => q (List.mem_append_right _ z))
/-- a slot is read -/
theorem EnvRep.get : ∀ {ρ : Env} {σ : St} {as : List Addr}, EnvRep K w P H ρ σ as → ∀ (i : Nat) (d : D), ρ[i]? = some (some d) → ∃ v bs, σ[i]? = some (some v) ∧ Rep K w P H d v bs ∧ ∀ a ∈ bs, a ∈ as
  | _, _, _, .nil, i, d, h => by simp at h
  | _, _, _, .no r, 0, d, h => by simp at h
  | _, _, _, .no r, i + 1, d, h => by
    obtain ⟨v, bs, a, b, c⟩ := r.get i d (by simpa using h)
    exact ⟨v, bs, by simpa using a, b, c⟩
  | _, _, _, .yes x r, 0, d, h => by
    simp at h
    subst h
    exact ⟨_, _, rfl, x, fun a z => List.mem_append_left _ z⟩
  | _, _, _, .yes x r, i + 1, d, h => by
    obtain ⟨v, bs, a, b, c⟩ := r.get i d (by simpa using h)
    exact ⟨v, bs, by simpa using a, b, fun a z => List.mem_append_right _ (c a z)⟩
/-- a slot is taken out: its thing, and the others -/
theorem EnvRep.take : ∀ {ρ : Env} {σ : St} {as : List Addr}, EnvRep K w P H ρ σ as → as.Nodup → ∀ (i : Nat) (d : D), ρ[i]? = some (some d) →
    ∃ v bs cs, σ[i]? = some (some v) ∧ Rep K w P H d v bs ∧ EnvRep K w P H (ρ.set i none) σ cs ∧ (bs ++ cs).Nodup ∧ ∀ a, a ∈ bs ++ cs ↔ a ∈ as
  | _, _, _, .nil, _, i, d, h => by simp at h
  | _, _, _, .no r, _, 0, d, h => by simp at h
  | _, _, _, .no r, n, i + 1, d, h => by
    obtain ⟨v, bs, cs, a, b, c, n', m⟩ := r.take n i d (by simpa using h)
    exact ⟨v, bs, cs, by simpa using a, b, .no c, n', m⟩
  | _, _, _, .yes (as := as1) (bs := bs1) x r, n, 0, d, h => by
    simp at h
    subst h
    exact ⟨_, as1, bs1, rfl, x, .no r, n, fun a => Iff.rfl⟩
  | _, _, _, .yes (as := as1) (bs := bs1) x r, n, i + 1, d, h => by
    obtain ⟨n1, n2, n3⟩ := List.nodup_append.mp n
    obtain ⟨v, bs, cs, a, b, c, n', m⟩ := r.take n2 i d (by simpa using h)
    obtain ⟨m1, m2, m3⟩ := List.nodup_append.mp n'
    refine ⟨v, bs, as1 ++ cs, by simpa using a, b, .yes x c, ?_, fun a => ?_⟩
    · refine List.nodup_append.mpr ⟨m1, List.nodup_append.mpr ⟨n1, m2, fun y hy z hz e => n3 y hy z ((m z).mp (List.mem_append_right _ hz)) e⟩, fun y hy z hz e => ?_⟩
      rcases List.mem_append.mp hz with hz | hz
      · exact n3 z hz y ((m y).mp (List.mem_append_left _ hy)) e.symm
      · exact m3 y hy z hz e
    · have := m a
      simp only [List.mem_append] at this ⊢
      constructor
      · rintro (q | q | q)
        · exact .inr (this.mp (.inl q))
        · exact .inl q
        · exact .inr (this.mp (.inr q))
      · rintro (q | q)
        · exact .inr (.inl q)
        · exact (this.mpr q).elim .inl (fun q => .inr (.inr q))
/-- a slot is dropped -/
theorem EnvRep.drop : ∀ {ρ : Env} {σ : St} {as : List Addr}, EnvRep K w P H ρ σ as → as.Nodup → ∀ (i : Nat), ∃ cs, EnvRep K w P H (ρ.set i none) σ cs ∧ cs.Nodup ∧ ∀ a ∈ cs, a ∈ as := fun {ρ σ as} r n i => by
  cases h : ρ[i]? with
  | none => exact ⟨as, by rw [List.set_eq_of_length_le (List.getElem?_eq_none_iff.mp h)]; exact r, n, fun _ z => z⟩
  | some x =>
    cases x with
    | none =>
      refine ⟨as, ?_, n, fun _ z => z⟩
      have hl : i < ρ.length := (List.getElem?_eq_some_iff.mp h).1
      have : ρ.set i none = ρ := by
        apply List.ext_getElem?
        intro j
        by_cases hj : i = j
        · subst hj; rw [List.getElem?_set_self hl, h]
        · rw [List.getElem?_set_ne hj]
      rw [this]; exact r
    | some d =>
      obtain ⟨v, bs, cs, _, _, c, m, e⟩ := r.take n i d h
      exact ⟨cs, c, (List.nodup_append.mp m).2.1, fun a z => (e a).mp (List.mem_append_right _ z)⟩
/-- a slot that is empty takes a thing -/
theorem EnvRep.put : ∀ {ρ : Env} {σ : St} {as : List Addr}, EnvRep K w P H ρ σ as → ∀ (i : Nat) (d : D) (v : V) (bs : List Addr), ρ[i]? = some none → Rep K w P H d v bs → (bs ++ as).Nodup →
    ∃ cs, EnvRep K w P H (ρ.set i (some d)) (σ.set i (some v)) cs ∧ cs.Nodup ∧ ∀ a ∈ cs, a ∈ bs ++ as
  | _, _, _, .nil, i, d, v, bs, h, _, _ => by simp at h
  | _, _, _, .no (as := as) r, 0, d, v, bs, h, x, n => ⟨bs ++ as, .yes x r, n, fun _ z => z⟩
  | _, _, _, .no r, i + 1, d, v, bs, h, x, n => by
    obtain ⟨cs, a, b, c⟩ := r.put i d v bs (by simpa using h) x n
    exact ⟨cs, .no a, b, c⟩
  | _, _, _, .yes y r, 0, d, v, bs, h, x, n => by simp at h
  | _, _, _, .yes (as := as1) (bs := bs1) y r, i + 1, d, v, bs, h, x, n => by
    obtain ⟨n1, n2, n3⟩ := List.nodup_append.mp n
    obtain ⟨n4, n5, n6⟩ := List.nodup_append.mp n2
    obtain ⟨cs, a, b, c⟩ := r.put i d v bs (by simpa using h) x (List.nodup_append.mpr ⟨n1, n5, fun p hp q hq => n3 p hp q (List.mem_append_right _ hq)⟩)
    refine ⟨as1 ++ cs, .yes y a, List.nodup_append.mpr ⟨n4, b, fun p hp q hq e => ?_⟩, fun p hp => ?_⟩
    · rcases List.mem_append.mp (c q hq) with z | z
      · exact n3 q z p (List.mem_append_left _ hp) e.symm
      · exact n6 p hp q z e
    · rcases List.mem_append.mp hp with hp | hp
      · exact List.mem_append_right _ (List.mem_append_left _ hp)
      · rcases List.mem_append.mp (c p hp) with z | z
        · exact List.mem_append_left _ z
        · exact List.mem_append_right _ (List.mem_append_right _ z)
/-- one slot is frozen -/
theorem EnvRep.fz1 : ∀ {ρ : Env} {σ : St} {as : List Addr}, EnvRep K w P H ρ σ as → as.Nodup → ∀ (i : Nat), ∃ bs cs, EnvRep K w (fun a => P a ∨ a ∈ bs) H (fzAt i ρ) σ cs ∧ (bs ++ cs).Nodup ∧ ∀ a ∈ bs ++ cs, a ∈ as
  | _, _, _, .nil, _, i => ⟨[], [], by unfold fzAt; exact .nil, .nil, fun _ z => nomatch z⟩
  | _, _, _, .no (as := as) r, n, 0 => ⟨[], as, (by unfold fzAt; exact .no (r.mono (.refl _) fun _ z => .inl z)), n, fun _ z => z⟩
  | _, _, _, .no r, n, i + 1 => by
    obtain ⟨bs, cs, a, b, c⟩ := r.fz1 n i
    exact ⟨bs, cs, by unfold fzAt; exact .no a, b, c⟩
  | _, _, _, .yes (as := as1) (bs := bs1) x r, n, 0 => by
    refine ⟨as1, bs1, ?_, n, fun _ z => z⟩
    unfold fzAt
    exact .yes (as := []) (x.fz (fun _ z => .inl z) fun _ z => .inr z) (r.mono (.refl _) fun _ z => .inl z)
  | _, _, _, .yes (as := as1) (bs := bs1) x r, n, i + 1 => by
    obtain ⟨n1, n2, n3⟩ := List.nodup_append.mp n
    obtain ⟨bs, cs, a, b, c⟩ := r.fz1 n2 i
    obtain ⟨m1, m2, m3⟩ := List.nodup_append.mp b
    refine ⟨bs, as1 ++ cs, ?_, ?_, fun p hp => ?_⟩
    · unfold fzAt
      exact .yes (x.mono (.refl _) fun _ z => .inl z) a
    · refine List.nodup_append.mpr ⟨m1, List.nodup_append.mpr ⟨n1, m2, fun p hp q hq e => n3 p hp q (c q (List.mem_append_right _ hq)) e⟩, fun p hp q hq e => ?_⟩
      rcases List.mem_append.mp hq with z | z
      · exact n3 q z p (c p (List.mem_append_left _ hp)) e.symm
      · exact m3 p hp q z e
    · rcases List.mem_append.mp hp with z | z
      · exact List.mem_append_right _ (c p (List.mem_append_left _ z))
      · rcases List.mem_append.mp z with z | z
        · exact List.mem_append_left _ z
        · exact List.mem_append_right _ (c p (List.mem_append_right _ z))
/-- the slots of rd are frozen -/
theorem EnvRep.frz : ∀ (rd : List Nat) {P : Addr → Prop} {ρ : Env} {σ : St} {as : List Addr}, EnvRep K w P H ρ σ as → as.Nodup → (∀ a ∈ as, ¬ P a) →
    ∃ Q cs, (∀ a, P a → Q a) ∧ (∀ a, Q a → P a ∨ a ∈ as) ∧ EnvRep K w Q H (frz rd ρ) σ cs ∧ cs.Nodup ∧ (∀ a ∈ cs, a ∈ as ∧ ¬ Q a) ∧
      ∀ i ∈ rd, ∀ d, ρ[i]? = some (some d) → ∃ v, σ[i]? = some (some v) ∧ Rep K w Q H d.fz v []
  | [], P, ρ, σ, as, r, n, np => ⟨P, as, fun _ z => z, fun _ z => .inl z, r, n, fun a z => ⟨z, np a z⟩, fun _ z => nomatch z⟩
  | j :: rd, P, ρ, σ, as, r, n, np => by
    obtain ⟨bs, cs, a, b, c⟩ := r.fz1 n j
    obtain ⟨m1, m2, m3⟩ := List.nodup_append.mp b
    have np2 : ∀ x ∈ cs, ¬ (P x ∨ x ∈ bs) := fun x hx q => q.elim (np x (c x (List.mem_append_right _ hx))) fun q => m3 x q x hx rfl
    obtain ⟨Q, ds, q1, q2, q3, q4, q5, q6⟩ := EnvRep.frz rd a m2 np2
    refine ⟨Q, ds, fun x hx => q1 x (.inl hx), fun x hx => ?_, q3, q4, fun x hx => ⟨c x (List.mem_append_right _ (q5 x hx).1), (q5 x hx).2⟩, fun i hi d hd => ?_⟩
    · rcases q2 x hx with (z | z) | z
      · exact .inl z
      · exact .inr (c x (List.mem_append_left _ z))
      · exact .inr (c x (List.mem_append_right _ z))
    · by_cases hj : i = j
      · subst hj
        obtain ⟨v, bs', h1, h2, _⟩ := a.get i d.fz (by rw [fzAt_get, hd]; rfl)
        refine ⟨v, h1, ?_⟩
        have fin := h2.fz (P' := Q) q1
        rw [D.fz_fz] at fin
        refine fin fun x hx => ?_
        -- what is frozen owns nothing
        exact absurd hx (by rw [Rep.fz_nil h2]; simp)
      · rcases List.mem_cons.mp hi with hi | hi
        · exact absurd hi hj
        · exact q6 i hi d (by rw [fzAt_ne j i ρ hj]; exact hd)
end
end DL

set_option Elab.async false
set_option linter.all false
set_option maxRecDepth 100000
namespace DL
open PySem PySem.Spec L2
open PyProof.Rows hiding St

/-- what stays through a def's body: the entry's heap, what was frozen there -/
structure Fx where
  L : Lt
  H0 : Hp
  P0 : Addr → Prop
  fz0 : Fz P0 H0
def RelVs (B : Fx) (ρ : Env) (σ : St) (H : Hp) (ds : List D) (vs : List V) : Prop := ∃ P as bs, Grow B.P0 P [] B.H0 H ∧ EnvRep B.L.K B.L.w P H ρ σ as ∧ Reps B.L.K B.L.w P H ds vs bs ∧ (bs ++ as).Nodup ∧ ∀ a ∈ bs ++ as, B.H0 a = none ∧ ¬ P a
abbrev Rel (B : Fx) (ρ : Env) (σ : St) (H : Hp) : Prop := RelVs B ρ σ H [] []

inductive MR where
  | val (d : D) (ρ : Env) | exc (c : Str) (n : Int) (ρ : Env) | stuck
inductive ML where
  | vals (ds : List D) (ρ : Env) | exc (c : Str) (n : Int) (ρ : Env) | stuck
/-- an error flies, what is tracked as ρ tells -/
def FlyR (B : Fx) (c : Str) (n : Int) (ρ : Env) (σ : St) (fr : List D) (fvs : List V) : Prop := ∀ cls d H', RelVs B ρ σ H' fr fvs → XRep B.L.mg H' cls d c n → B.L.W cls d σ H'
abbrev Mv := Env → MR
abbrev MLv := Env → ML

def tM (B : Fx) (m : Mv) : TE := fun σ H Q => ∃ ρ fr fvs, RelVs B ρ σ H fr fvs ∧ match m ρ with
  | .val d ρ' => ∀ v H', RelVs B ρ' σ H' (d :: fr) (v :: fvs) → Q v H'
  | .exc c n ρ' => FlyR B c n ρ' σ fr fvs
  | .stuck => False
def tML (B : Fx) (m : MLv) : TA := fun σ H Q => ∃ ρ fr fvs, RelVs B ρ σ H fr fvs ∧ match m ρ with
  | .vals ds ρ' => ∀ vs H', RelVs B ρ' σ H' (ds ++ fr) (vs ++ fvs) → Q vs H'
  | .exc c n ρ' => FlyR B c n ρ' σ fr fvs
  | .stuck => False

theorem Reps.split {K : PySem.W.Frag} {w : World} {P : Addr → Prop} {H : Hp} : ∀ {xs ys : List D} {us vs : List V} {bs : List Addr}, xs.length = us.length → Reps K w P H (xs ++ ys) (us ++ vs) bs →
    ∃ b1 b2, bs = b1 ++ b2 ∧ Reps K w P H xs us b1 ∧ Reps K w P H ys vs b2
  | [], ys, [], vs, bs, _, h => ⟨[], bs, rfl, .nil, h⟩
  | [], ys, _ :: _, vs, bs, e, h => by simp at e
  | _ :: _, ys, [], vs, bs, e, h => by simp at e
  | x :: xs, ys, u :: us, vs, _, e, .cons (as := a1) a b => by
    obtain ⟨b1, b2, e2, r1, r2⟩ := Reps.split (xs := xs) (us := us) (by simpa using e) b
    exact ⟨a1 ++ b1, b2, by rw [e2, List.append_assoc], .cons a r1, r2⟩
theorem Reps.append {K : PySem.W.Frag} {w : World} {P : Addr → Prop} {H : Hp} : ∀ {xs ys : List D} {us vs : List V} {b1 b2 : List Addr}, Reps K w P H xs us b1 → Reps K w P H ys vs b2 → Reps K w P H (xs ++ ys) (us ++ vs) (b1 ++ b2)
  | _, _, _, _, _, _, .nil, h => h
  | _, _, _, _, _, _, .cons a b, h => by rw [List.append_assoc]; exact .cons a (b.append h)
theorem RelVs.lens {B : Fx} {ρ : Env} {σ : St} {H : Hp} {ds : List D} {vs : List V} (h : RelVs B ρ σ H ds vs) : ds.length = vs.length := by
  obtain ⟨_, _, _, _, _, r, _⟩ := h; exact r.length
theorem RelVs.envlen {B : Fx} {ρ : Env} {σ : St} {H : Hp} {ds : List D} {vs : List V} (h : RelVs B ρ σ H ds vs) : ρ.length = σ.length := by
  obtain ⟨_, _, _, _, r, _, _⟩ := h; exact r.length
/-- the things in another order -/
theorem RelVs.perm {B : Fx} {ρ : Env} {σ : St} {H : Hp} {xs ys zs : List D} {us vs ws : List V} (e1 : xs.length = us.length) (e2 : ys.length = vs.length) (h : RelVs B ρ σ H (xs ++ (ys ++ zs)) (us ++ (vs ++ ws))) : RelVs B ρ σ H (ys ++ (xs ++ zs)) (vs ++ (us ++ ws)) := by
  obtain ⟨P, as, bs, g, er, rr, n, q⟩ := h
  obtain ⟨b1, b', rfl, r1, r'⟩ := rr.split e1
  obtain ⟨b2, b3, rfl, r2, r3⟩ := r'.split e2
  have pm : (b2 ++ (b1 ++ b3) ++ as).Perm (b1 ++ (b2 ++ b3) ++ as) := by
    refine List.Perm.append_right as ?_
    rw [← List.append_assoc, ← List.append_assoc]
    exact List.Perm.append_right b3 List.perm_append_comm
  exact ⟨P, as, b2 ++ (b1 ++ b3), g, er, r2.append (r1.append r3), pm.nodup_iff.mpr n, fun a z => q a (pm.mem_iff.mp z)⟩
theorem RelVs.forget {B : Fx} {ρ : Env} {σ : St} {H : Hp} {ds : List D} {vs : List V} (h : RelVs B ρ σ H ds vs) : Rel B ρ σ H := by
  obtain ⟨P, as, bs, g, er, rr, n, q⟩ := h
  exact ⟨P, as, [], g, er, .nil, (List.nodup_append.mp n).2.1, fun a z => q a (List.mem_append_right _ z)⟩
theorem RelVs.tail {B : Fx} {ρ : Env} {σ : St} {H : Hp} {d : D} {v : V} {ds : List D} {vs : List V} (h : RelVs B ρ σ H (d :: ds) (v :: vs)) : RelVs B ρ σ H ds vs := by
  obtain ⟨P, as, bs, g, er, rr, n, q⟩ := h
  cases rr with
  | cons a b =>
    rename_i a1 b1
    rw [List.append_assoc] at n q
    exact ⟨P, as, b1, g, er, b, (List.nodup_append.mp n).2.1, fun x z => q x (List.mem_append_right _ z)⟩
/-- the heap grows -/
theorem RelVs.same {B : Fx} {ρ : Env} {σ : St} {H H' : Hp} {ds : List D} {vs : List V} (h : RelVs B ρ σ H ds vs) (e : Same H H') : RelVs B ρ σ H' ds vs := by
  obtain ⟨P, as, bs, g, er, rr, n, q⟩ := h
  exact ⟨P, as, bs, ⟨g.same.trans e, g.le, fun a z => (g.new a z).elim .inl fun z => z.elim (fun z => nomatch z) fun ⟨z, o, y⟩ => .inr (.inr ⟨z, o, e _ _ y⟩)⟩, er.mono e fun _ z => z, rr.mono e fun _ z => z, n, q⟩
theorem FlyR.fly {B : Fx} {c : Str} {n : Int} {ρ : Env} {σ : St} {fr : List D} {fvs : List V} {H : Hp} (h : FlyR B c n ρ σ fr fvs) (r : RelVs B ρ σ H fr fvs) : Fly B.L c n σ H := fun cls d H' e x => h cls d H' (r.same e) x
/-- Rel, as a reading's view: the slots of rd are frozen in it -/
theorem RelVs.views {B : Fx} {ρ : Env} {σ : St} {H : Hp} {ds : List D} {vs : List V} (h : RelVs B ρ σ H ds vs) (rd : List Nat) :
    ∃ Q, View B.L.K B.L.w Q H rd ρ σ ∧ ∀ rs us H', OutL B.L.K B.L.w Q [] H H' rs us → RelVs B (if cleans rs = true then ρ else frz rd ρ) σ H' (rs ++ ds) (us ++ vs) := by
  obtain ⟨P, as, bs, g, er, rr, n, q⟩ := h
  obtain ⟨nb, na, nab⟩ := List.nodup_append.mp n
  obtain ⟨Q, cs, q1, q2, q3, q4, q5, q6⟩ := EnvRep.frz rd er na fun a z => (q a (List.mem_append_right _ z)).2
  have fzP : Fz P H := g.fz B.fz0 (fun _ z => nomatch z)
  have fzQ : Fz Q H := fun a z => (q2 a z).elim (fzP a) fun z => (er.there a z).some
  refine ⟨Q, ⟨fzQ, er.length, q6⟩, fun r v H' o => ?_⟩
  obtain ⟨P2, a2, g2, r2, o2, n2⟩ := o
  have fresh : ∀ a ∈ a2, H a = none := fun a z => (n2 a z).elim (fun z => nomatch z) id
  have stand : ∀ a, (∃ o, H a = some o) → a ∉ a2 := fun a ⟨o, h⟩ z => by rw [fresh a z] at h; cases h
  have sb : ∀ a ∈ bs, ∃ o, H a = some o := fun a z => (rr.there a z).some
  have sa : ∀ a ∈ as, ∃ o, H a = some o := fun a z => (er.there a z).some
  have f0 : ∀ a ∈ a2, B.H0 a = none := fun a z => g.same.free (fresh a z)
  have npQ : ∀ a ∈ bs, ¬ Q a := fun a z y => (q2 a y).elim (q a (List.mem_append_left _ z)).2 fun y => nab a z a y rfl
  have new2 : ∀ a, P2 a → Q a ∨ (H a = none ∧ ∃ o, H' a = some o) := fun a z => (g2.new a z).elim .inl fun z => z.elim (fun z => nomatch z) .inr
  by_cases hc : cleans r = true
  · rw [if_pos hc]
    refine ⟨P, as, a2 ++ bs, ⟨g.same.trans g2.same, g.le, fun a z => (g.new a z).elim .inl fun z => z.elim (fun z => nomatch z) fun ⟨z, o, y⟩ => .inr (.inr ⟨z, o, g2.same _ _ y⟩)⟩, er.mono g2.same fun _ z => z, (r2.unP hc).append (rr.mono g2.same fun _ z => z), ?_, fun a z => ?_⟩
    · rw [List.append_assoc]
      exact List.nodup_append.mpr ⟨o2.nd, n, fun a z b y e => by
        subst e
        exact stand a ((List.mem_append.mp y).elim (sb a) (sa a)) z⟩
    · rw [List.append_assoc] at z
      rcases List.mem_append.mp z with z | z
      · exact ⟨f0 a z, fun y => o2.np a z (g2.le a (q1 a y))⟩
      · exact q a z
  · rw [if_neg hc]
    have out : ∀ a, (∃ o, H a = some o) → ¬ Q a → ¬ P2 a := fun a ⟨o, h⟩ nq y => (new2 a y).elim nq fun ⟨z, _⟩ => by rw [h] at z; cases z
    refine ⟨P2, cs, a2 ++ bs, ⟨g.same.trans g2.same, fun a z => g2.le a (q1 a (g.le a z)), fun a z => ?_⟩, q3.mono g2.same g2.le, r2.append (rr.mono g2.same fun a z => g2.le a (q1 a z)), ?_, fun a z => ?_⟩
    · rcases new2 a z with z | ⟨z, y⟩
      · rcases q2 a z with z | z
        · rcases g.new a z with z | z | ⟨z, o, y⟩
          · exact .inl z
          · cases z
          · exact .inr (.inr ⟨z, o, g2.same _ _ y⟩)
        · obtain ⟨o, h⟩ := sa a z
          exact .inr (.inr ⟨(q a (List.mem_append_right _ z)).1, o, g2.same _ _ h⟩)
      · exact .inr (.inr ⟨g.same.free z, y⟩)
    · rw [List.append_assoc]
      refine List.nodup_append.mpr ⟨o2.nd, List.nodup_append.mpr ⟨nb, q4, fun a z b y e => nab a z b (q5 b y).1 e⟩, fun a z b y e => ?_⟩
      subst e
      exact stand a ((List.mem_append.mp y).elim (sb a) fun y => sa a (q5 a y).1) z
    · rw [List.append_assoc] at z
      rcases List.mem_append.mp z with z | z
      · exact ⟨f0 a z, o2.np a z⟩
      · rcases List.mem_append.mp z with z | z
        · exact ⟨(q a (List.mem_append_left _ z)).1, out a (sb a z) (npQ a z)⟩
        · exact ⟨(q a (List.mem_append_right _ (q5 a z).1)).1, out a (sa a (q5 a z).1) (q5 a z).2⟩
theorem Out.list {K : PySem.W.Frag} {w : World} {P : Addr → Prop} {as : List Addr} {H H' : Hp} {r : D} {v : V} (o : Out K w P as H H' r v) : OutL K w P as H H' [r] [v] := by
  obtain ⟨P', as', g, rr, ow, n⟩ := o
  exact ⟨P', as', g, by have := Reps.cons rr .nil; rw [List.append_nil] at this; exact this, ow, n⟩
theorem RelVs.view {B : Fx} {ρ : Env} {σ : St} {H : Hp} {ds : List D} {vs : List V} (h : RelVs B ρ σ H ds vs) (rd : List Nat) :
    ∃ Q, View B.L.K B.L.w Q H rd ρ σ ∧ ∀ r v H', Out B.L.K B.L.w Q [] H H' r v → RelVs B (if r.clean = true then ρ else frz rd ρ) σ H' (r :: ds) (v :: vs) := by
  obtain ⟨Q, vw, k⟩ := h.views rd
  refine ⟨Q, vw, fun r v H' o => ?_⟩
  have := k [r] [v] H' o.list
  simp only [cleans, Bool.and_true] at this
  exact this
/-- things of the frame are frozen -/
theorem RelVs.fzL {B : Fx} {ρ : Env} {σ : St} {H : Hp} {ds fr : List D} {vs fvs : List V} (ln : ds.length = vs.length) (h : RelVs B ρ σ H (ds ++ fr) (vs ++ fvs)) : RelVs B ρ σ H (fzs ds ++ fr) (vs ++ fvs) := by
  obtain ⟨P, as, bs, g, er, rr, n, q⟩ := h
  obtain ⟨b1, b2, rfl, r1, r2⟩ := rr.split ln
  rw [List.append_assoc] at n q
  obtain ⟨n1, n2, n3⟩ := List.nodup_append.mp n
  refine ⟨fun a => P a ∨ a ∈ b1, as, b2, ⟨g.same, fun a z => .inl (g.le a z), fun a z => ?_⟩, er.mono (.refl _) fun _ z => .inl z, (r1.fz (fun _ z => .inl z) fun _ z => .inr z).append (b1 := []) (r2.mono (.refl _) fun _ z => .inl z), n2, fun a z => ⟨(q a (List.mem_append_right _ z)).1, fun y => ?_⟩⟩
  · rcases z with z | z
    · exact g.new a z
    · obtain ⟨o, h⟩ := (r1.there a z).some
      exact .inr (.inr ⟨(q a (List.mem_append_left _ z)).1, o, h⟩)
  · rcases y with y | y
    · exact (q a (List.mem_append_right _ z)).2 y
    · exact n3 a y a z rfl

def mE (rd : List Nat) (f : Ev) : Mv := fun ρ => match f ρ with
  | .val r => .val r (if r.clean = true then ρ else frz rd ρ)
  | .exc c n => .exc c n ρ
  | .stuck => .stuck
/-- a slot's thing, handed on: the slot is empty then -/
def mV (i : Nat) : Mv := fun ρ => match ρ[i]? with
  | some (some d) => .val d (ρ.set i none)
  | _ => .stuck
def mN : MLv := fun ρ => .vals [] ρ
def mC (m : Mv) (l : MLv) : MLv := fun ρ => match m ρ with
  | .val d ρ1 => match l ρ1 with
    | .vals ds ρ2 => .vals (d :: ds) ρ2
    | .exc c n ρ' => .exc c n ρ'
    | .stuck => .stuck
  | .exc c n ρ' => .exc c n ρ'
  | .stuck => .stuck
def mTup (l : MLv) : Mv := fun ρ => match l ρ with
  | .vals ds ρ' => if ds.length ≤ sizeLine then .val (.tup ds) ρ' else .stuck
  | .exc c n ρ' => .exc c n ρ'
  | .stuck => .stuck
def mLst (l : MLv) : Mv := fun ρ => match l ρ with
  | .vals ds ρ' => if ds.length ≤ sizeLine then .val (.lst true ds) ρ' else .stuck
  | .exc c n ρ' => .exc c n ρ'
  | .stuck => .stuck
section
variable {X : Cx} {W : WX} {B : Fx} {e : Expr} {es : List Expr} {pos : Pos} {f : Ev} {m : Mv} {l : MLv} {rd : List Nat}
abbrev DM (X : Cx) (B : Fx) (e : Expr) (m : Mv) : Prop := PE X e (tM B m)
abbrev DML (X : Cx) (B : Fx) (es : List Expr) (m : MLv) : Prop := PA X es (tML B m)
theorem tM_of {σ : St} {H : Hp} {Q : VK} (h : tM B (mE rd f) σ H Q) : tE B.L rd f σ H Q := by
  obtain ⟨ρ, fr, fvs, r, q⟩ := h
  obtain ⟨Q', vw, k⟩ := r.view rd
  refine ⟨ρ, Q', vw, ?_⟩
  unfold mE at q
  cases hf : f ρ with
  | val d =>
    rw [hf] at q
    exact fun v H' o => q v H' (k d v H' o)
  | exc c n => rw [hf] at q; exact q.fly r
  | stuck => rw [hf] at q; exact q
theorem dm_e (h : PE X e (tE B.L rd f)) : DM X B e (mE rd f) := PEi h fun σ H Q q => tM_of q
theorem dm_v {i : Nat} (h : PE X e (tVar i)) : DM X B e (mV i) := PEi h fun σ H Q ⟨ρ, fr, fvs, r, q⟩ => by
  unfold mV at q
  cases h : ρ[i]? with
  | none => rw [h] at q; exact q.elim
  | some x =>
    cases x with
    | none => rw [h] at q; exact q.elim
    | some d =>
      rw [h] at q
      obtain ⟨P, as, bs, g, er, rr, n, qq⟩ := r
      obtain ⟨nb, na, nab⟩ := List.nodup_append.mp n
      obtain ⟨v, b1, cs, hv, rv, er', n', me⟩ := er.take na i d h
      obtain ⟨n1, n2, n3⟩ := List.nodup_append.mp n'
      refine ⟨v, hv, q v H ⟨P, cs, b1 ++ bs, g, er', .cons rv rr, ?_, fun a z => ?_⟩⟩
      · rw [List.append_assoc]
        refine List.nodup_append.mpr ⟨n1, List.nodup_append.mpr ⟨nb, n2, fun a z b y e => nab a z b ((me b).mp (List.mem_append_right _ y)) e⟩, fun a z b y e => ?_⟩
        rcases List.mem_append.mp y with y | y
        · exact nab b y a ((me a).mp (List.mem_append_left _ z)) e.symm
        · exact n3 a z b y e
      · rw [List.append_assoc] at z
        rcases List.mem_append.mp z with z | z
        · exact qq a (List.mem_append_right _ ((me a).mp (List.mem_append_left _ z)))
        · rcases List.mem_append.mp z with z | z
          · exact qq a (List.mem_append_left _ z)
          · exact qq a (List.mem_append_right _ ((me a).mp (List.mem_append_right _ z)))
theorem dml_nil : DML X B [] mN := PAi pa_nil fun σ H Q ⟨ρ, fr, fvs, r, q⟩ => q [] H r
theorem dml_cons (ha : DM X B e m) (hr : DML X B es l) (hs : starEach (e :: es) X.env = (false, eval e X.env) :: starEach es X.env := by rfl) : DML X B (e :: es) (mC m l) :=
  PAi (pa_cons ha hr hs) fun σ H Q ⟨ρ, fr, fvs, r, q⟩ => by
    refine ⟨ρ, fr, fvs, r, ?_⟩
    unfold mC at q
    cases hm : m ρ with
    | val d ρ1 =>
      rw [hm] at q
      intro v H1 r1
      refine ⟨ρ1, d :: fr, v :: fvs, r1, ?_⟩
      cases hl : l ρ1 with
      | vals ds ρ2 =>
        simp only [hl] at q
        intro vs H2 r2
        have ln : ds.length = vs.length := by
          have a := r2.lens
          have b := r1.lens
          simp only [List.length_append, List.length_cons] at a b
          omega
        exact q (v :: vs) H2 (RelVs.perm (xs := ds) (ys := [d]) (us := vs) (vs := [v]) ln rfl r2)
      | exc c n ρ' => simp only [hl] at q; exact fun cls d H' r' x => q cls d H' r'.tail x
      | stuck => simp only [hl] at q
    | exc c n ρ' => rw [hm] at q; exact q
    | stuck => rw [hm] at q; exact q
theorem RelVs.newT {ρ : Env} {σ : St} {H : Hp} {ds fr : List D} {vs fvs : List V} {p : Addr} (hp : H p = none) (ln : ds.length = vs.length) (h : RelVs B ρ σ H (ds ++ fr) (vs ++ fvs)) :
    RelVs B ρ σ (upd H p (.tup vs)) (.tup ds :: fr) (.ref p :: fvs) := by
  obtain ⟨P, as, bs, g, er, rr, n, q⟩ := h.same (same_new (o := .tup vs) hp)
  obtain ⟨b1, b2, rfl, r1, r2⟩ := rr.split ln
  exact ⟨P, as, b1 ++ b2, g, er, .cons (.tup upd_same r1) r2, n, q⟩
theorem RelVs.newL {ρ : Env} {σ : St} {H : Hp} {ds fr : List D} {vs fvs : List V} {p : Addr} (hp : H p = none) (ln : ds.length = vs.length) (h : RelVs B ρ σ H (ds ++ fr) (vs ++ fvs)) :
    RelVs B ρ σ (upd H p (.lst vs)) (.lst true ds :: fr) (.ref p :: fvs) := by
  obtain ⟨P, as, bs, g, er, rr, n, q⟩ := id h
  have np : ¬ P p := fun z => by
    obtain ⟨o, ho⟩ := g.fz B.fz0 (fun _ z => nomatch z) p z
    rw [hp] at ho; cases ho
  have nm : p ∉ bs ++ as := fun z => by
    obtain ⟨o, ho⟩ := ((List.mem_append.mp z).elim (rr.there p) (er.there p)).some
    rw [hp] at ho; cases ho
  have h0 : B.H0 p = none := g.same.free hp
  have e := same_new (o := .lst vs) hp
  obtain ⟨b1, b2, rfl, r1, r2⟩ := rr.split ln
  refine ⟨P, as, p :: (b1 ++ b2), ⟨g.same.trans e, g.le, fun a z => (g.new a z).elim .inl fun z => z.elim (fun z => nomatch z) fun ⟨z, o, y⟩ => .inr (.inr ⟨z, o, e _ _ y⟩)⟩, er.mono e fun _ z => z,
    .cons (as := p :: b1) (.lstO upd_same (r1.mono e fun _ z => z)) (r2.mono e fun _ z => z), List.nodup_cons.mpr ⟨nm, n⟩, fun a z => ?_⟩
  rcases List.mem_cons.mp z with rfl | z
  · exact ⟨h0, np⟩
  · exact q a z
theorem dm_tup {x1} (h : DML X B es l) : DM X B (.Tuple es x1 pos) (mTup l) := PEi (pe_tup h) fun σ H Q ⟨ρ, fr, fvs, r, q⟩ => by
  refine ⟨ρ, fr, fvs, r, ?_⟩
  unfold mTup at q
  cases hl : l ρ with
  | vals ds ρ' =>
    rw [hl] at q
    intro vs H1 r1
    have ln : ds.length = vs.length := by
      have a := r1.lens
      have b := r.lens
      simp only [List.length_append] at a
      omega
    by_cases hz : ds.length ≤ sizeLine
    · simp only [hz, if_true] at q
      exact ⟨by rw [← ln]; exact hz, fun p hp => q _ _ (r1.newT hp ln)⟩
    · simp only [hz, if_false] at q
  | exc c n ρ' => rw [hl] at q; exact q
  | stuck => rw [hl] at q; exact q
theorem dm_lst (h : DML X B es l) : DM X B (.List es pos) (mLst l) := PEi (pe_lst h) fun σ H Q ⟨ρ, fr, fvs, r, q⟩ => by
  refine ⟨ρ, fr, fvs, r, ?_⟩
  unfold mLst at q
  cases hl : l ρ with
  | vals ds ρ' =>
    rw [hl] at q
    intro vs H1 r1
    have ln : ds.length = vs.length := by
      have a := r1.lens
      have b := r.lens
      simp only [List.length_append] at a
      omega
    by_cases hz : ds.length ≤ sizeLine
    · simp only [hz, if_true] at q
      exact ⟨by rw [← ln]; exact hz, fun p hp => q _ _ (r1.newL hp ln)⟩
    · simp only [hz, if_false] at q
  | exc c n ρ' => rw [hl] at q; exact q
  | stuck => rw [hl] at q; exact q
end
end DL

set_option Elab.async false
set_option linter.all false
set_option maxRecDepth 100000
namespace DL
open PySem PySem.Spec L2
open PyProof.Rows hiding St

inductive SR where
  | nx (ρ : Env) | brk (ρ : Env) | ct (ρ : Env) | ret (d : D) | exc (c : Str) (n : Int) (ρ : Env) | stuck
abbrev Sv := Env → SR

/-- what a statement's end asks -/
def Aft (B : Fx) (D : Ends) (fr : List DL.D) (fvs : List V) : SR → Prop
  | .nx ρ => ∀ σ H, RelVs B ρ σ H fr fvs → D.nx σ H
  | .brk ρ => ∀ σ H, RelVs B ρ σ H fr fvs → D.bk σ H
  | .ct ρ => ∀ σ H, RelVs B ρ σ H fr fvs → D.ct σ H
  | .ret d => ∀ v H, Out B.L.K B.L.w B.P0 [] B.H0 H d v → D.rt v H
  | .exc c n ρ => ∀ cls d σ H, RelVs B ρ σ H fr fvs → XRep B.L.mg H cls d c n → B.L.W cls d σ H
  | .stuck => False
def tS (B : Fx) (f : Sv) : TS := fun D σ H => ∃ ρ fr fvs, RelVs B ρ σ H fr fvs ∧ Aft B D fr fvs (f ρ)
abbrev DS (X : Cx) (B : Fx) (st : Stmt) (f : Sv) : Prop := PS X st (tS B f)
abbrev DSs (X : Cx) (B : Fx) (st : List Stmt) (f : Sv) : Prop := PSs X st (tS B f)
theorem PSi {X : Cx} {e : Stmt} {t t' : TS} (h : PS X e t) (i : ∀ D σ H, t' D σ H → t D σ H) : PS X e t' := ⟨fun pins s σ H D I q => h.run pins s σ H D I (i D σ H q)⟩
theorem PSsi {X : Cx} {e : List Stmt} {t t' : TS} (h : PSs X e t) (i : ∀ D σ H, t' D σ H → t D σ H) : PSs X e t' := ⟨fun pins s σ H D I q => h.run pins s σ H D I (i D σ H q)⟩
theorem PGi {X : Cx} {e : Expr} {t t' : TG} (h : PG X e t) (i : ∀ v σ H Q, t' v σ H Q → t v σ H Q) : PG X e t' := ⟨fun pins s σ H v u Q I r q => h.run pins s σ H v u Q I r (i v σ H Q q)⟩
theorem PGsi {X : Cx} {e : List Expr} {t t' : TGs} (h : PGs X e t) (i : ∀ v σ H Q, t' v σ H Q → t v σ H Q) : PGs X e t' := ⟨fun pins s σ H v u Q I r q => h.run pins s σ H v u Q I r (i v σ H Q q)⟩
theorem PIi {X : Cx} {tg e : Expr} {t t' : TI} (h : PI X tg e t) (i : ∀ σ H Q, t' σ H Q → t σ H Q) : PI X tg e t' := ⟨fun pins s σ H R I q => h.run pins s σ H R I (i σ H R q)⟩

def sNx : Sv := fun ρ => .nx ρ
def sBrk : Sv := fun ρ => .brk ρ
def sCt : Sv := fun ρ => .ct ρ
def sSeq (f g : Sv) : Sv := fun ρ => match f ρ with
  | .nx ρ' => g ρ'
  | r => r
/-- where a name's thing goes: a name's slot, or a tuple of such -/
inductive Tg where
  | nm (i : Nat) | tp (l : List Tg) | sub (i : Nat) (es : List Ev)
/-- the list, the dict at a path -/
def keysOf : List Ev → Env → Option (List D)
  | [], _ => some []
  | f :: l, ρ => match f ρ, keysOf l ρ with
    | .val k, some ks => if k.clean = true then some (k :: ks) else none
    | _, _ => none
def dGet : D → D → Option D
  | .lst _ xs, .int k => atI xs k
  | .dic _ kvs, k => (kvs.find? fun p => p.1.keq k).map (·.2)
  | _, _ => none
def kvSet (k d : D) : List (D × D) → List (D × D)
  | [] => [(k, d)]
  | p :: r => if p.1.keq k = true then (p.1, d) :: r else p :: kvSet k d r
def dSet : D → D → D → Option D
  | .lst true xs, .int k, d => (ixN xs.length k).map fun j => .lst true (xs.set j d)
  | _, _, _ => none
def getP : D → List D → Option D
  | d, [] => some d
  | d, k :: ks => (dGet d k).bind fun e => getP e ks
/-- the place's new content, put back -/
def putP : D → List D → D → Option D
  | _, [], d => some d
  | e, k :: ks, d => (dGet e k).bind fun x => (putP x ks d).bind fun x' => dSet e k x'
/-- the path runs along lists -/
def pathL : D → List D → Bool
  | _, [] => true
  | .lst _ xs, .int i :: ks => match atI xs i with
    | some x => pathL x ks
    | none => false
  | _, _ => false
def setP (d0 : D) (ks : List D) (d : D) : Option D := match ks.reverse with
  | [] => none
  | k :: r => if pathL d0 r.reverse = true then (getP d0 r.reverse).bind fun e => (dSet e k d).bind fun e' => putP d0 r.reverse e' else none
mutual
def Tg.put : Tg → D → Env → Option Env
  | .nm i, d, ρ => some (ρ.set i (some d))
  | .sub i es, d, ρ => match keysOf es ρ, ρ[i]? with
    | some ks, some (some d0) => (setP d0 ks d).map fun d1 => ρ.set i (some d1)
    | _, _ => none
  | .tp l, .tup ds, ρ => tgPuts l ds ρ
  | .tp l, .lst _ ds, ρ => tgPuts l ds ρ
  | .tp _, _, _ => none
def tgPuts : List Tg → List D → Env → Option Env
  | [], [], ρ => some ρ
  | t :: l, d :: ds, ρ => match t.put d ρ with
    | some ρ' => tgPuts l ds ρ'
    | none => none
  | _, _, _ => none
end
def sAsg (t : Tg) (m : Mv) : Sv := fun ρ => match m ρ with
  | .val d ρ' => match t.put d ρ' with
    | some ρ2 => .nx ρ2
    | none => .stuck
  | .exc c n ρ' => .exc c n ρ'
  | .stuck => .stuck
abbrev sSet (i : Nat) (m : Mv) : Sv := sAsg (.nm i) m
def sRet (m : Mv) : Sv := fun ρ => match m ρ with
  | .val d _ => .ret d
  | .exc c n ρ' => .exc c n ρ'
  | .stuck => .stuck
def sRetN : Sv := fun _ => .ret .non
def sDrop (m : Mv) : Sv := fun ρ => match m ρ with
  | .val _ ρ' => .nx ρ'
  | .exc c n ρ' => .exc c n ρ'
  | .stuck => .stuck
def sIf (t : Ev) (a b : Sv) : Sv := fun ρ => match t ρ with
  | .val (.bl c) => if c = true then a ρ else b ρ
  | .exc c n => .exc c n ρ
  | _ => .stuck
def whileN (t : Ev) (b : Sv) : Nat → Sv
  | 0 => fun _ => .stuck
  | n + 1 => fun ρ => match t ρ with
    | .val (.bl c) => if c = true then (match b ρ with
      | .nx ρ' => whileN t b n ρ'
      | .ct ρ' => whileN t b n ρ'
      | .brk ρ' => .nx ρ'
      | r => r) else .nx ρ
    | .exc c n => .exc c n ρ
    | _ => .stuck
open Classical in
noncomputable def sWhile (t : Ev) (b : Sv) : Sv := fun ρ => if h : ∃ n, whileN t b n ρ ≠ .stuck then whileN t b h.choose ρ else .stuck
def forL (g : D → Env → Option Env) (b : Sv) : List D → Sv
  | [] => fun ρ => .nx ρ
  | x :: xs => fun ρ => match g x ρ with
    | none => .stuck
    | some ρ1 => match b ρ1 with
      | .nx ρ' => forL g b xs ρ'
      | .ct ρ' => forL g b xs ρ'
      | .brk ρ' => .nx ρ'
      | r => r
/-- for t in ..: gi tells the things that are walked from the arguments -/
def sFor (rd : List Nat) (l : Lv) (gi : List D → Option (List D)) (t : Tg) (b : Sv) : Sv := fun ρ => match l ρ with
  | .vals ds => match gi ds with
    | some xs => forL t.put b (fzs xs) (if cleans ds = true then ρ else frz rd ρ)
    | none => .stuck
  | .exc c n => .exc c n ρ
  | .stuck => .stuck

theorem whileN_more {t : Ev} {b : Sv} : ∀ {n : Nat} {ρ : Env}, whileN t b n ρ ≠ .stuck → ∀ k, whileN t b (n + k) ρ = whileN t b n ρ
  | 0, ρ, h, _ => absurd rfl h
  | n + 1, ρ, h, k => by
    rw [show n + 1 + k = (n + k) + 1 by omega]
    unfold whileN at h ⊢
    cases ht : t ρ with
    | val d =>
      cases d with
      | bl c =>
        simp only [ht] at h ⊢
        cases c with
        | false => rfl
        | true =>
          simp only [if_true] at h ⊢
          cases hb : b ρ with
          | nx ρ' => simp only [hb] at h ⊢; exact whileN_more h k
          | ct ρ' => simp only [hb] at h ⊢; exact whileN_more h k
          | _ => rfl
      | _ => rfl
    | _ => rfl
theorem sWhile_eq {t : Ev} {b : Sv} {n : Nat} {ρ : Env} {r : SR} (h : whileN t b n ρ = r) (hr : r ≠ .stuck) : sWhile t b ρ = r := by
  have ex : ∃ n, whileN t b n ρ ≠ .stuck := ⟨n, by rw [h]; exact hr⟩
  unfold sWhile
  rw [dif_pos ex]
  have c := ex.choose_spec
  have a1 := whileN_more c n
  have a2 := whileN_more (t := t) (b := b) (n := n) (ρ := ρ) (by rw [h]; exact hr) ex.choose
  rw [← a1, Nat.add_comm, a2, h]
theorem sWhile_ex {t : Ev} {b : Sv} {ρ : Env} (h : sWhile t b ρ ≠ .stuck) : ∃ n, whileN t b n ρ = sWhile t b ρ := by
  unfold sWhile at h ⊢
  by_cases ex : ∃ n, whileN t b n ρ ≠ .stuck
  · rw [dif_pos ex]; exact ⟨_, rfl⟩
  · rw [dif_neg ex] at h; exact absurd rfl h

section
variable {X : Cx} {W : WX} {B : Fx} {e : Expr} {es : List Expr} {st : Stmt} {sts : List Stmt} {pos : Pos} {f : Ev} {m : Mv} {F G : Sv} {rd : List Nat}

theorem dss_nil : DSs X B [] sNx := PSsi pss_nil fun D σ H ⟨ρ, fr, fvs, r, q⟩ => q σ H r
theorem dss_cons (h1 : DS X B st F) (h2 : DSs X B sts G) : DSs X B (st :: sts) (sSeq F G) := PSsi (pss_cons h1 h2) fun D σ H ⟨ρ, fr, fvs, r, q⟩ => by
  refine ⟨ρ, fr, fvs, r, ?_⟩
  unfold sSeq at q
  cases hF : F ρ with
  | nx ρ' => rw [hF] at q; exact fun σ' H' r' => ⟨ρ', fr, fvs, r', q⟩
  | brk ρ' => rw [hF] at q; exact q
  | ct ρ' => rw [hF] at q; exact q
  | ret d => rw [hF] at q; exact q
  | exc c n ρ' => rw [hF] at q; exact q
  | stuck => rw [hF] at q; exact q
theorem dss_one (h1 : DS X B st F) : DSs X B [st] F := pss_one h1
theorem ds_pass : DS X B (.Pass pos) sNx := PSi ps_pass fun D σ H ⟨ρ, fr, fvs, r, q⟩ => q σ H r
theorem ds_brk : DS X B (.Break pos) sBrk := PSi ps_break fun D σ H ⟨ρ, fr, fvs, r, q⟩ => q σ H r
theorem ds_ct : DS X B (.Continue pos) sCt := PSi ps_continue fun D σ H ⟨ρ, fr, fvs, r, q⟩ => q σ H r
/-- a slot takes the first thing of the frame -/
theorem RelVs.put {ρ : Env} {σ : St} {H : Hp} {d : DL.D} {v : V} {fr : List DL.D} {fvs : List V} (h : RelVs B ρ σ H (d :: fr) (v :: fvs)) (i : Nat) : RelVs B (ρ.set i (some d)) (σ.set i (some v)) H fr fvs := by
  by_cases hi : i < ρ.length
  · obtain ⟨P, as, bs, g, er, rr, n, q⟩ := h
    cases rr with
    | cons a b =>
      rename_i b1 b2
      rw [List.append_assoc] at n q
      obtain ⟨n1, n2, n3⟩ := List.nodup_append.mp n
      obtain ⟨n4, n5, n6⟩ := List.nodup_append.mp n2
      obtain ⟨cs, er2, nc, mc⟩ := er.drop n5 i
      obtain ⟨ds, er3, nd, md⟩ := er2.put i d v b1 (by rw [List.getElem?_set_self hi]) a (List.nodup_append.mpr ⟨n1, nc, fun x hx y hy e => n3 x hx y (List.mem_append_right _ (mc y hy)) e⟩)
      rw [List.set_set] at er3
      refine ⟨P, ds, b2, g, er3, b, List.nodup_append.mpr ⟨n4, nd, fun x hx y hy e => ?_⟩, fun x hx => ?_⟩
      · rcases List.mem_append.mp (md y hy) with z | z
        · exact n3 y z x (List.mem_append_left _ hx) e.symm
        · exact n6 x hx y (mc y z) e
      · rcases List.mem_append.mp hx with z | z
        · exact q x (List.mem_append_right _ (List.mem_append_left _ z))
        · rcases List.mem_append.mp (md x z) with z | z
          · exact q x (List.mem_append_left _ z)
          · exact q x (List.mem_append_right _ (List.mem_append_right _ (mc x z)))
  · have hl := h.envlen
    rw [List.set_eq_of_length_le (by omega), List.set_eq_of_length_le (by omega)]
    exact h.tail

def tG (B : Fx) (t : Tg) : TG := fun v σ H Q => ∃ ρ d fr fvs, RelVs B ρ σ H (d :: fr) (v :: fvs) ∧ match t.put d ρ with
  | some ρ' => ∀ σ' H', RelVs B ρ' σ' H' fr fvs → Q σ' H'
  | none => False
def tGs (B : Fx) (l : List Tg) : TGs := fun vs σ H Q => ∃ ρ ds fr fvs, RelVs B ρ σ H (ds ++ fr) (vs ++ fvs) ∧ ds.length = vs.length ∧ match tgPuts l ds ρ with
  | some ρ' => ∀ σ' H', RelVs B ρ' σ' H' fr fvs → Q σ' H'
  | none => False
abbrev DG (X : Cx) (B : Fx) (e : Expr) (t : Tg) : Prop := PG X e (tG B t)
abbrev DGs (X : Cx) (B : Fx) (es : List Expr) (l : List Tg) : Prop := PGs X es (tGs B l)
theorem dg_nm {i : Nat} (h : PG X e (gName i)) : DG X B e (.nm i) := PGi h fun v σ H Q ⟨ρ, d, fr, fvs, r, q⟩ => q _ H (r.put i)
theorem dgs_nil : DGs X B [] [] := PGsi pgs_nil fun vs σ H Q ⟨ρ, ds, fr, fvs, r, ln, q⟩ => by
  cases ds with
  | nil =>
    cases vs with
    | nil => exact ⟨rfl, q σ H r⟩
    | cons _ _ => simp at ln
  | cons _ _ => exact q.elim
theorem dgs_cons {t : Tg} {l : List Tg} (h1 : DG X B e t) (h2 : DGs X B es l) (hs : (assignEach (e :: es) X.env).map (·.2) = assign e X.env :: (assignEach es X.env).map (·.2) := by rfl) : DGs X B (e :: es) (t :: l) :=
  PGsi (pgs_cons h1 h2 hs) fun vs σ H Q ⟨ρ, ds, fr, fvs, r, ln, q⟩ => by
    cases ds with
    | nil => exact q.elim
    | cons d ds =>
      cases vs with
      | nil => simp at ln
      | cons v vs =>
        refine ⟨v, vs, rfl, ρ, d, ds ++ fr, vs ++ fvs, r, ?_⟩
        simp only [tgPuts] at q
        cases ht : t.put d ρ with
        | none => rw [ht] at q; exact q
        | some ρ' =>
          rw [ht] at q
          exact fun σ' H' r' => ⟨ρ', ds, fr, fvs, r', by simpa using ln, q⟩
theorem RelVs.spread {ρ : Env} {σ : St} {H : Hp} {d : DL.D} {ds : List DL.D} {v : V} {fr : List DL.D} {fvs : List V} (r : RelVs B ρ σ H (d :: fr) (v :: fvs)) (hd : d = .tup ds ∨ ∃ o, d = .lst o ds) :
    ∃ a vs, v = .ref a ∧ ((∃ K, SqT K H a vs) ∨ ∃ K, SqL K H a vs) ∧ (d = .tup ds → H a = some (.tup vs)) ∧ ((∃ o, d = .lst o ds) → H a = some (.lst vs)) ∧ ds.length = vs.length ∧ RelVs B ρ σ H (ds ++ fr) (vs ++ fvs) := by
  obtain ⟨P, as, bs, g, er, rr, nn, qq⟩ := r
  cases rr with
  | cons a b =>
    rename_i b1 b2
    rcases hd with rfl | ⟨o, rfl⟩
    · cases a with
      | @tup adr vs1 _ _ ha ra => exact ⟨adr, vs1, rfl, .inl ⟨B.L.K, .of ha⟩, (fun _ => ha), (fun ⟨o, z⟩ => by cases z), ra.length, P, as, b1 ++ b2, g, er, ra.append b, nn, qq⟩
    · cases a with
      | @lstF adr vs1 _ hF ra => exact ⟨adr, vs1, rfl, .inr ⟨B.L.K, hF.sql⟩, (fun z => by cases z), (fun _ => hF.1), ra.length, P, as, [] ++ b2, g, er, ra.append b, nn, qq⟩
      | @lstO adr vs1 _ as1 hH ra =>
        refine ⟨adr, vs1, rfl, .inr ⟨B.L.K, .of hH⟩, (fun z => by cases z), (fun _ => hH), ra.length, P, as, as1 ++ b2, g, er, ra.append b, ?_, fun x z => qq x ?_⟩
        · exact (List.nodup_cons.mp nn).2
        · exact List.mem_cons_of_mem _ z
theorem tgPuts_len0 : ∀ (l : List Tg) (ds : List DL.D) (ρ ρ' : Env), tgPuts l ds ρ = some ρ' → ds.length = l.length := by
  intro l
  induction l with
  | nil => intro ds ρ ρ' h; cases ds with
    | nil => rfl
    | cons _ _ => simp [tgPuts] at h
  | cons t l ih => intro ds ρ ρ' h; cases ds with
    | nil => simp [tgPuts] at h
    | cons d ds =>
      simp only [tgPuts] at h
      split at h
      · simp [ih ds _ _ h]
      · cases h
theorem PG.or' {e : Expr} {t u : TG} (h1 : PG X e t) (h2 : PG X e u) : PG X e (fun v σ H Q => t v σ H Q ∨ u v σ H Q) := ⟨fun pins s σ H v w Q I r h => h.elim (h1.run pins s σ H v w Q I r) (h2.run pins s σ H v w Q I r)⟩
theorem dg_tup {k n : Nat} {l : List Tg} (hc : X.calm = true) (h : DGs X B es l) (hn : (assignEach es X.env).length = n := by rfl) (hl : l.length = n := by rfl) (hst : (assignEach es X.env).findIdx? (·.1) = none := by rfl) : DG X B (.Tuple es k pos) (.tp l) :=
  PGi (PG.or' (pg_tup hc h hn hst) (pg_lst hc h hn hst)) fun v σ H Q ⟨ρ, d, fr, fvs, r, q⟩ => by
    have go : ∀ ds, (d = .tup ds ∨ ∃ o, d = .lst o ds) → (match tgPuts l ds ρ with | some ρ' => ∀ σ' H', RelVs B ρ' σ' H' fr fvs → Q σ' H' | none => False) → L2.gTup X.K n (tGs B l) v σ H Q ∨ L2.gLst X.K n (tGs B l) v σ H Q := fun ds hd q => by
      obtain ⟨a, vs, rfl, _, h1, h2, ln, r'⟩ := r.spread hd
      have hlen : ds.length = l.length := by
        cases hp : tgPuts l ds ρ with
        | none => rw [hp] at q; exact q.elim
        | some ρ' => exact tgPuts_len0 l ds ρ ρ' hp
      rcases hd with rfl | hd
      · exact .inl ⟨a, vs, rfl, .of (h1 rfl), by omega, ρ, ds, fr, fvs, r', ln, q⟩
      · exact .inr ⟨a, vs, rfl, .of (h2 hd), by omega, ρ, ds, fr, fvs, r', ln, q⟩
    cases d with
    | tup ds => simp only [Tg.put] at q; exact go ds (.inl rfl) q
    | lst o ds => simp only [Tg.put] at q; exact go ds (.inr ⟨o, rfl⟩) q
    | _ => simp only [Tg.put] at q

theorem ds_asg {tg : Expr} {t : Tg} (he : DM X B e m) (hg : DG X B tg t) (hs : swapsWithSole [tg] e pos.line X.env = pure false := by rfl) (hw : swappedStores [tg] e X.env = pure none := by rfl)
    (h1 : (assignEach [tg] X.env).map (·.2) = [assign tg X.env] := by rfl) : DS X B (.Assign [tg] e pos) (sAsg t m) := PSi (ps_asg he hg hs hw h1) fun D σ H ⟨ρ, fr, fvs, r, q⟩ => by
  refine ⟨ρ, fr, fvs, r, ?_⟩
  unfold sAsg at q
  cases hm : m ρ with
  | val d ρ' =>
    rw [hm] at q
    intro v H' r'
    refine ⟨ρ', d, fr, fvs, r', ?_⟩
    cases ht : t.put d ρ' with
    | some ρ2 => simp only [ht] at q; exact fun σ' H2 r2 => q σ' H2 r2
    | none => simp only [ht] at q; exact q
  | exc c n ρ' => rw [hm] at q; exact fun cls d H' r' x => q cls d σ H' r' x
  | stuck => rw [hm] at q; exact q
theorem ds_set {i : Nat} {x : Str} {pos' : Pos} (hN : X.N.Nodup) (hi : X.N[i]? = some x) (hx : Loc X.env.scope x) (he : DM X B e m) (hs : swapsWith e (some (.Name x pos')) pos.line X.env = pure false := by rfl) (hf : X.fn x = true ∨ X.env.scope.names.lookup x = some .local := by first | exact .inl rfl | exact .inr rfl | assumption) :
    DS X B (.Assign [.Name x pos'] e pos) (sSet i m) := PSi (ps_set hN hi hx he hs hf) fun D σ H ⟨ρ, fr, fvs, r, q⟩ => by
  refine ⟨ρ, fr, fvs, r, ?_⟩
  unfold sSet sAsg at q
  cases hm : m ρ with
  | val d ρ' =>
    rw [hm] at q
    intro v H' r'
    simp only [Tg.put] at q
    exact q _ H' (r'.put i)
  | exc c n ρ' => rw [hm] at q; exact fun cls d H' r' x => q cls d σ H' r' x
  | stuck => rw [hm] at q; exact q
theorem ds_drop (he : DM X B e m) (hs : swapsWith e none pos.line X.env = pure false := by rfl) : DS X B (.Expr e pos) (sDrop m) := PSi (ps_expr he hs) fun D σ H ⟨ρ, fr, fvs, r, q⟩ => by
  refine ⟨ρ, fr, fvs, r, ?_⟩
  unfold sDrop at q
  cases hm : m ρ with
  | val d ρ' => rw [hm] at q; exact fun v H' r' => q σ H' r'.tail
  | exc c n ρ' => rw [hm] at q; exact fun cls d H' r' x => q cls d σ H' r' x
  | stuck => rw [hm] at q; exact q
theorem RelVs.ret {ρ : Env} {σ : St} {H : Hp} {d : DL.D} {v : V} {fr : List DL.D} {fvs : List V} (h : RelVs B ρ σ H (d :: fr) (v :: fvs)) : Out B.L.K B.L.w B.P0 [] B.H0 H d v := by
  obtain ⟨P, as, bs, g, er, rr, n, q⟩ := h
  cases rr with
  | cons a b =>
    rename_i b1 b2
    rw [List.append_assoc] at n q
    exact ⟨P, b1, g, a, ⟨(List.nodup_append.mp n).1, fun x z => (q x (List.mem_append_left _ z)).2⟩, fun x z => .inr (q x (List.mem_append_left _ z)).1⟩
theorem ds_ret (he : DM X B e m) : DS X B (.Return (some e) pos) (sRet m) := PSi (ps_ret he) fun D σ H ⟨ρ, fr, fvs, r, q⟩ => by
  refine ⟨ρ, fr, fvs, r, ?_⟩
  unfold sRet at q
  cases hm : m ρ with
  | val d ρ' => rw [hm] at q; exact fun v H' r' => q v H' r'.ret
  | exc c n ρ' => rw [hm] at q; exact fun cls d H' r' x => q cls d σ H' r' x
  | stuck => rw [hm] at q; exact q
theorem ds_retN : DS X B (.Return none pos) sRetN := PSi ps_retN fun D σ H ⟨ρ, fr, fvs, r, q⟩ => by
  obtain ⟨P, as, bs, g, _⟩ := r
  exact q .non H ⟨P, [], g, .non, .nil, fun _ z => nomatch z⟩

theorem test_of {σ : St} {H : Hp} {ρ : Env} {fr : List DL.D} {fvs : List V} {Q : Bool → Hp → Prop} (r : RelVs B ρ σ H fr fvs)
    (h : match f ρ with
      | .val (.bl c) => ∀ H', Same H H' → RelVs B ρ σ H' fr fvs → Q c H'
      | .val _ => False
      | .exc c n => ∀ cls d H', RelVs B ρ σ H' fr fvs → XRep B.L.mg H' cls d c n → B.L.W cls d σ H'
      | .stuck => False) : tT B.L rd f σ H Q := by
  obtain ⟨Q', vw, _⟩ := r.view rd
  refine ⟨ρ, Q', vw, ?_⟩
  cases hf : f ρ with
  | val d =>
    rw [hf] at h
    cases d with
    | bl c => exact fun H' e => h H' e (r.same e)
    | _ => exact h
  | exc c n => rw [hf] at h; exact fun cls d H' e x => h cls d H' (r.same e) x
  | stuck => rw [hf] at h; exact h
theorem ds_if {c : Expr} {a b : List Stmt} (hc : PT X c (tT B.L rd f)) (ha : DSs X B a F) (hb : DSs X B b G) : DS X B (.If c a b pos) (sIf f F G) := PSi (ps_if hc ha hb) fun D σ H ⟨ρ, fr, fvs, r, q⟩ => by
  refine test_of r ?_
  unfold sIf at q
  cases hf : f ρ with
  | val d =>
    rw [hf] at q
    cases d with
    | bl c =>
      intro H' e' r'
      cases c with
      | true => exact ⟨ρ, fr, fvs, r', q⟩
      | false => exact ⟨ρ, fr, fvs, r', q⟩
    | _ => exact q
  | exc c n => rw [hf] at q; exact fun cls d H' r' x => q cls d σ H' r' x
  | stuck => rw [hf] at q; exact q
theorem ds_while {c : Expr} {body : List Stmt} (hp : PassesOwn (model X.prog X.w) X.A X.env X.xe) (hc : PT X c (tT B.L rd f)) (hb : DSs X B body F) : DS X B (.While c body [] pos) (sWhile f F) :=
  PSi (ps_while hp hc hb) fun D σ H ⟨ρ, fr, fvs, r, q⟩ => by
    have ns : sWhile f F ρ ≠ .stuck := fun z => by rw [z] at q; exact q
    obtain ⟨n0, hn⟩ := sWhile_ex ns
    rw [← hn] at q
    refine ⟨fun n σ H => ∃ ρ, RelVs B ρ σ H fr fvs ∧ Aft B D fr fvs (whileN f F n ρ), ⟨n0, ρ, r, q⟩, ?_⟩
    rintro n σ1 H1 ⟨ρ1, r1, q1⟩
    cases n with
    | zero => exact q1.elim
    | succ n =>
      refine test_of r1 ?_
      unfold whileN at q1
      cases hf : f ρ1 with
      | val d =>
        rw [hf] at q1
        cases d with
        | bl c =>
          intro H' e' r'
          cases c with
          | false => exact q1 σ1 H' r'
          | true =>
            refine ⟨fun σ' H' => ∃ ρ', RelVs B ρ' σ' H' fr fvs ∧ Aft B D fr fvs (whileN f F n ρ'), fun σ' H' z => ⟨n, Nat.lt_succ_self n, z⟩, ρ1, fr, fvs, r', ?_⟩
            simp only [if_true] at q1
            cases hF : F ρ1 with
            | nx ρ' => simp only [hF] at q1; exact fun σ' H' r2 => ⟨ρ', r2, q1⟩
            | ct ρ' => simp only [hF] at q1; exact fun σ' H' r2 => ⟨ρ', r2, q1⟩
            | brk ρ' => simp only [hF] at q1; exact q1
            | ret d => simp only [hF] at q1; exact q1
            | exc c n ρ' => simp only [hF] at q1; exact q1
            | stuck => simp only [hF] at q1; exact q1
        | _ => exact q1
      | exc c n => rw [hf] at q1; exact fun cls d H' r' x => q1 cls d σ1 H' r' x
      | stuck => rw [hf] at q1; exact q1

/-- the iterator J yields xs, while the things fd (at fv) stand frozen -/
def ItOk (K : PySem.W.Frag) (w : World) (J : It) (fd : List DL.D) (fv : List V) (xs : List DL.D) : Prop :=
  ∀ (P : Addr → Prop) (H : Hp), Fz P H → Reps K w P H fd fv [] → ∀ i, (∀ x, xs[i]? = some x → J.go i H ∧ ∀ v H', J.yld i H v H' → Out K w P [] H H' x.fz v) ∧ (i = xs.length → J.stop i H)
def tI (L : Lt) (rd : List Nat) (l : Lv) (gi : List DL.D → Option (List DL.D)) : TI := fun σ H R => ∃ ρ P, View L.K L.w P H rd ρ σ ∧ match l ρ with
  | .vals ds => (match gi ds with
    | some xs => ∀ J vs gd gv H', OutL L.K L.w P [] H H' ds vs → (∀ P', Reps L.K L.w P' H' (fzs ds) vs [] → Reps L.K L.w P' H' (fzs gd) gv []) → ItOk L.K L.w J (fzs gd) gv xs → R J H'
    | none => False)
  | .exc c n => Fly L c n σ H
  | .stuck => False
abbrev DI (X : Cx) (W : WX) (tg e : Expr) (rd : List Nat) (l : Lv) (gi : List DL.D → Option (List DL.D)) : Prop := PI X tg e (tI (lt X W) rd l gi)
theorem fzs_get {xs : List DL.D} {i : Nat} {x : DL.D} (h : xs[i]? = some x) : (fzs xs)[i]? = some x.fz := by rw [fzs_eq, List.getElem?_map, h]; rfl
theorem forL_drop {g : DL.D → Env → Option Env} {b : Sv} {xs : List DL.D} {i : Nat} {x : DL.D} (h : xs[i]? = some x) : forL g b (xs.drop i) = forL g b (x :: xs.drop (i + 1)) := by
  rw [List.drop_eq_getElem_cons (List.getElem?_eq_some_iff.mp h).1, (List.getElem?_eq_some_iff.mp h).2]
theorem ds_for {tg iter : Expr} {body : List Stmt} {t : Tg} {l : Lv} {gi : List DL.D → Option (List DL.D)} (hp : PassesOwn (model X.prog X.w) X.A X.env X.xe) (hc : X.calm = true) (hi : PI X tg iter (tI B.L rd l gi)) (hg : DG X B tg t) (hb : DSs X B body F)
    (hs : ∀ x, foldedSetIterable iter X.env x = pure x := by intro _; rfl) : DS X B (.For tg iter body [] pos) (sFor rd l gi t F) := PSi (ps_for hp hc hi hg hb hs) fun D σ H ⟨ρ, fr, fvs, r, q⟩ => by
  obtain ⟨Q', vw, k⟩ := r.views rd
  refine ⟨ρ, Q', vw, ?_⟩
  unfold sFor at q
  cases hl : l ρ with
  | vals ds =>
    rw [hl] at q
    cases hx : gi ds with
    | none => simp only [hx] at q; exact q.elim
    | some xs =>
      simp only [hx] at q ⊢
      intro J vs gd gv H1 o gh ok
      have r1 := k ds vs H1 o
      have ln0 : ds.length = vs.length := by obtain ⟨_, _, _, rr, _⟩ := o; exact rr.length
      have r2 := r1.fzL ln0
      generalize (if cleans ds = true then ρ else frz rd ρ) = ρ1 at q r2
      have ⟨lnf, r2'⟩ : (fzs gd).length = gv.length ∧ RelVs B ρ1 σ H1 (fzs gd ++ fr) (gv ++ fvs) := by
        obtain ⟨P, as, bs, g, er, rr, n, qq⟩ := r2
        obtain ⟨b1, b2, rfl, ra, rb⟩ := rr.split (by rw [fzs_eq, List.length_map]; exact ln0)
        have e1 : b1 = [] := Reps.fz_nil (ds := ds) ra
        subst e1
        have rg := gh P ra
        exact ⟨rg.length, P, as, b2, g, er, rg.append rb, n, qq⟩
      -- the invariant
      refine ⟨fun i m σ H => m = (fzs xs).length - i ∧ i ≤ (fzs xs).length ∧ ∃ ρ, RelVs B ρ σ H (fzs gd ++ fr) (gv ++ fvs) ∧ Aft B D fr fvs (forL t.put F ((fzs xs).drop i) ρ), ⟨_, rfl, Nat.zero_le _, ρ1, r2', q⟩, ?_⟩
      rintro i m σ2 H2 ⟨rfl, hi, ρ2, r3, q3⟩
      have dropR : ∀ {ρ σ H}, RelVs B ρ σ H (fzs gd ++ fr) (gv ++ fvs) → RelVs B ρ σ H fr fvs := fun {ρ σ H} h => by
        obtain ⟨P, as, bs, g, er, rr, n, qq⟩ := h
        obtain ⟨b1, b2, rfl, r1, r2⟩ := rr.split lnf
        rw [List.append_assoc] at n qq
        exact ⟨P, as, b2, g, er, r2, (List.nodup_append.mp n).2.1, fun a z => qq a (List.mem_append_right _ z)⟩
      have atP : ∀ i, (∀ x, xs[i]? = some x → J.go i H2 ∧ ∀ v H', J.yld i H2 v H' → RelVs B ρ2 σ2 H' (x.fz :: (fzs gd ++ fr)) (v :: (gv ++ fvs))) ∧ (i = xs.length → J.stop i H2) := fun i => by
        obtain ⟨P, as, bs, g, er, rr, n, qq⟩ := id r3
        obtain ⟨b1, b2, rfl, ra, rb⟩ := rr.split lnf
        have e1 : b1 = [] := Reps.fz_nil (ds := gd) ra
        subst e1
        have fzP : Fz P H2 := g.fz B.fz0 (fun _ z => nomatch z)
        have z := ok P H2 fzP ra i
        refine ⟨fun x hx => ⟨(z.1 x hx).1, fun v H' y => ?_⟩, z.2⟩
        obtain ⟨P2, a2, g2, rr2, ow2, n2⟩ := (z.1 x hx).2 v H' y
        have e2 : a2 = [] := Rep.fz_nil (d := x) rr2
        subst e2
        have new2 : ∀ a, P2 a → P a ∨ (H2 a = none ∧ ∃ o, H' a = some o) := fun a z => (g2.new a z).elim .inl fun z => z.elim (fun z => nomatch z) .inr
        refine ⟨P2, as, [] ++ b2, ⟨g.same.trans g2.same, fun a z => g2.le a (g.le a z), fun a z => ?_⟩, er.mono g2.same g2.le, .cons (as := []) rr2 (rr.mono g2.same g2.le), n, fun a z => ⟨(qq a z).1, fun y => ?_⟩⟩
        · rcases new2 a z with z | ⟨z, y⟩
          · rcases g.new a z with z | z | ⟨z, o, y⟩
            · exact .inl z
            · cases z
            · exact .inr (.inr ⟨z, o, g2.same _ _ y⟩)
          · exact .inr (.inr ⟨g.same.free z, y⟩)
        · rcases new2 a y with y | ⟨y, _⟩
          · exact (qq a z).2 y
          · obtain ⟨o, ho⟩ := ((List.mem_append.mp z).elim (fun z => rb.there a (by simpa using z)) (er.there a)).some
            rw [y] at ho; cases ho
      have lx : (fzs xs).length = xs.length := by rw [fzs_eq, List.length_map]
      by_cases hlt : i < xs.length
      · obtain ⟨x, hx'⟩ : ∃ x, xs[i]? = some x := ⟨xs[i], List.getElem?_eq_getElem hlt⟩
        obtain ⟨go, yl⟩ := (atP i).1 x hx'
        refine .inr ⟨go, fun σ' H' => ∃ ρ, RelVs B ρ σ' H' (fzs gd ++ fr) (gv ++ fvs) ∧ Aft B D fr fvs (forL t.put F ((fzs xs).drop (i + 1)) ρ), fun σ' H' z => ⟨_, by rw [lx]; omega, rfl, by rw [lx]; omega, z⟩, fun v H' y => ?_⟩
        refine ⟨ρ2, x.fz, fzs gd ++ fr, gv ++ fvs, yl v H' y, ?_⟩
        rw [forL_drop (fzs_get hx')] at q3
        unfold forL at q3
        cases ht : t.put x.fz ρ2 with
        | none => simp only [ht] at q3; exact q3
        | some ρ3 =>
          simp only [ht] at q3
          intro σ3 H3 r4
          refine ⟨ρ3, fzs gd ++ fr, gv ++ fvs, r4, ?_⟩
          cases hF : F ρ3 with
          | nx ρ' => simp only [hF] at q3; exact fun σ' H' r5 => ⟨ρ', r5, q3⟩
          | ct ρ' => simp only [hF] at q3; exact fun σ' H' r5 => ⟨ρ', r5, q3⟩
          | brk ρ' => simp only [hF] at q3; exact fun σ' H' r5 => q3 σ' H' (dropR r5)
          | ret d => simp only [hF] at q3; exact q3
          | exc c n ρ' => simp only [hF] at q3; exact fun cls d σ' H' r5 x => q3 cls d σ' H' (dropR r5) x
          | stuck => simp only [hF] at q3; exact q3
      · refine .inl ⟨(atP i).2 (by omega), ?_⟩
        rw [List.drop_eq_nil_iff.mpr (by rw [lx]; omega)] at q3
        exact q3 σ2 H2 (dropR r3)
  | exc c n => rw [hl] at q; exact fun cls d H' e' x => q cls d σ H' (r.same e') x
  | stuck => rw [hl] at q; exact q
end
end DL

set_option Elab.async false
set_option linter.all false
set_option maxRecDepth 100000
namespace DL
open PySem PySem.Spec L2
open PyProof.Rows hiding St

def runF (N n : Nat) (F : Sv) : List D → ER := fun ds => if ds.length = n then (match F (ds.map some ++ List.replicate (N - n) none) with
  | .ret d => .val d
  | .nx _ => .val .non
  | .exc c k _ => .exc c k
  | _ => .stuck) else .stuck
theorem EnvRep.nones {K : PySem.W.Frag} {w : World} {P : Addr → Prop} {H : Hp} : ∀ (n : Nat), EnvRep K w P H (List.replicate n none) (List.replicate n none) []
  | 0 => .nil
  | n + 1 => by rw [List.replicate_succ, List.replicate_succ]; exact .no (EnvRep.nones n)
theorem EnvRep.start {K : PySem.W.Frag} {w : World} {P : Addr → Prop} {H : Hp} (n : Nat) : ∀ {ds : List D} {vs : List V} {as : List Addr}, Reps K w P H ds vs as → EnvRep K w P H (ds.map some ++ List.replicate n none) (vs.map some ++ List.replicate n none) as
  | _, _, _, .nil => EnvRep.nones n
  | _, _, _, .cons x y => .yes x (EnvRep.start n y)

/-- the letters of a def's body -/
abbrev ltF (K : PySem.W.Frag) (w : World) (mg : Str → Option Value) (E : XK) : Lt := ⟨K, w, mg, fun cls d _ H => E cls d H⟩
section
variable {P : Program} {w : World} {K : PySem.W.Frag} {mg : Str → Option Value} {base : Heap}
theorem dx_of {N ps : List Str} {qual : Str} {st : Stmt} {f : Addr} {cdv : Value} {A : Around} {outer : List PySem.Env} {s : Shared} {H : Hp} {E : XK} {k : Nat} (S : FnScope N ps (defScope st)) (hr : RoomG k (A.deeper (envOfC qual (defScope st) s.heap.objs.size f cdv))) :
    Dx (cxOf (L2.CX P w) P w K mg base N qual (defScope st) f cdv A outer s H E) (fun cls d _ H => E cls d H) k :=
  ⟨takes_of rfl rfl rfl rfl, rfl, S.nd, hr.gd, hr.rm⟩
/-- THE RULE for a def -/
theorem fn_ofG {x qual : Str} {st : Stmt} {f : Addr} {fd : FuncData} {N ps : List Str} {k : Nat} {G : Sv} (F : Fun K x qual st f fd) (S : FnScope N ps (defScope st))
    (hbody : ∀ (cdv : Value) (A : Around) (outer : List PySem.Env) (s : Shared) (H : Hp) (E : XK) (P0 : Addr → Prop) (fz : Fz P0 H), RoomG k (A.deeper (envOfC qual (defScope st) s.heap.objs.size f cdv)) →
      DSs (cxOf (L2.CX P w) P w K mg base N qual (defScope st) f cdv A outer s H E) ⟨ltF K w mg E, H, P0, fz⟩ (defBody st) G) :
    FnG P w K mg base (k + 1) f fd ps (spD K w mg (runF N.length ps.length G)) := by
  have len : ∀ vs H Q E, spD K w mg (runF N.length ps.length G) vs H Q E → vs.length = ps.length := fun vs H Q E ⟨P0, ds, _, rr, q⟩ => by
    by_cases h : ds.length = ps.length
    · rw [← rr.length]; exact h
    · unfold runF at q
      rw [if_neg h] at q
      exact q.elim
  refine ⟨len, fun A outer s H args us vs Q E hr e0 hb r hsp => ?_⟩
  obtain ⟨oc, od, kV, doc, pm, an, cdv, ct, osl, rfl, lk, hcd⟩ := F.ex
  have hl := len _ _ _ _ hsp
  have KX : K.In s.heap := e0.mod.kin.keeps fun b o e => (e0.bs b o e).1
  have lim : s.heap.NoLimit := e0.mod.nolimit.keeps fun b o e => (e0.bs b o e).1
  have hkind : ∀ y ∈ ps.zip us, (defScope st).names.lookup y.1 = some .local ∨ ((defScope st).names.lookup y.1 = some .cell ∧ ((cellsFrom (s.heap.objs.size + 1) (defScope st).names []).lookup y.1).isSome = true) := fun ⟨n, v⟩ hy => by
    rcases S.par n (List.of_mem_zip hy).1 with q | q
    · exact .inl q
    · exact .inr ⟨q, PySem.W.cellsFrom_some _ _ _ (.inl q)⟩
  refine codeAny_call_function hr.rm.depth (KX _ _ lk) rfl S.co S.gen rfl (PySem.W.codeRec_of KX hcd) (hb _ _ _ _ ?_)
  refine wpAny_newFunctionEnv_cells S.kind hkind fun env he s1 x => ?_
  subst he
  refine ⟨lim.keeps x.toInCall.keep, codeAny_func ?_⟩
  obtain ⟨P0, ds, fz, rr, hq⟩ := hsp
  have ht := hbody cdv A outer s H E P0 fz ⟨hr.rm.deeper _, hr.gd⟩
  have I : Inv (cxOf (L2.CX P w) P w K mg base N qual (defScope st) f cdv A outer s H E) [] (start N vs) H s1 := inv_start S hr.rm.hd e0 hl r x
  have hn : N.length - vs.length = N.length - ps.length := by rw [hl]
  unfold runF at hq
  have hds : ds.length = ps.length := by rw [rr.length]; exact hl
  rw [if_pos hds] at hq
  have rel : RelVs ⟨ltF K w mg E, H, P0, fz⟩ (ds.map some ++ List.replicate (N.length - ps.length) none) (start N vs) H [] [] := by
    refine ⟨P0, [], [], .refl, ?_, .nil, .nil, fun _ z => nomatch z⟩
    have := EnvRep.start (K := K) (w := w) (P := P0) (H := H) (N.length - ps.length) rr
    show EnvRep K w P0 H _ (vs.map some ++ List.replicate (N.length - vs.length) none) []
    rw [hn]
    exact this
  refine wpAny_mono (ht.run [] s1 (start N vs) H { nx := fun _ H' => Q .non H', rt := Q } I ⟨_, [], [], rel, ?_⟩) (fun fl s' hs => ?_) fun e s' hs => hs
  · cases hG : G (ds.map some ++ List.replicate (N.length - ps.length) none) with
    | nx ρ =>
      rw [hG] at hq
      intro σ' H' r'
      obtain ⟨P1, as, bs, g, _⟩ := r'
      exact hq .non H' ⟨P1, [], g, .non, .nil, fun _ z => nomatch z⟩
    | ret d => rw [hG] at hq; exact hq
    | exc c n ρ =>
      rw [hG] at hq
      intro cls d σ' H' r' x'
      obtain ⟨P1, as, bs, g, _⟩ := r'
      exact hq cls d H' g.same x'
    | _ => rw [hG] at hq; exact hq.elim
  · have fin : ∀ {σ' : St} {H' : Hp} {v : V} {u : Value}, Inv (cxOf (L2.CX P w) P w K mg base N qual (defScope st) f cdv A outer s H E) [] σ' H' s' → RelV v u → Q v H' → CE outer P w H s Q u s' :=
      fun {σ' H' v u} J rv q => ⟨v, H', J.os, J.bare, J.base, J.hok, rv, q⟩
    cases fl with
    | ret u =>
      obtain ⟨v, σ', H', J, rv, q⟩ := hs
      exact fin J rv q
    | next =>
      obtain ⟨σ', H', J, q⟩ := hs
      exact fin (v := V.non) (u := Value.none) J rfl q
    | brk =>
      obtain ⟨_, _, _, q⟩ := hs
      exact False.elim q
    | cont =>
      obtain ⟨_, _, _, q⟩ := hs
      exact False.elim q
/-- .. an empty except for its last level -/
theorem FnG.mono {f : Addr} {fd : FuncData} {ps : List Str} {sp : Sp} {j k : Nat} (F : FnG P w K mg base j f fd ps sp) (h : j ≤ k) : FnG P w K mg base k f fd ps sp :=
  ⟨F.len, fun A outer s H args us vs Q E hr => F.run A outer s H args us vs Q E ⟨hr.rm.mono h, hr.gd⟩⟩
end
end DL

set_option Elab.async false
set_option linter.all false
set_option maxRecDepth 100000
namespace DL
open PySem PySem.Spec L2
open PyProof.Rows hiding St

mutual
def Tg.slots : Tg → List Nat
  | .nm i => [i]
  | .tp l => tgSlots l
  | .sub i _ => [i]
def tgSlots : List Tg → List Nat
  | [] => []
  | t :: l => t.slots ++ tgSlots l
end
mutual
theorem Tg.put_len : ∀ {t : Tg} {d : D} {ρ ρ' : Env}, t.put d ρ = some ρ' → ρ'.length = ρ.length
  | .nm i, d, ρ, ρ', h => by simp only [Tg.put, Option.some.injEq] at h; subst h; simp
  | .tp l, .tup ds, ρ, ρ', h => by simp only [Tg.put] at h; exact tgPuts_lenE h
  | .sub i es, d, ρ, ρ', h => by
    simp only [Tg.put] at h
    split at h
    · rename_i ks d0 h1 h2
      cases e : setP d0 ks d with
      | none => rw [e] at h; cases h
      | some d1 => rw [e] at h; cases h; simp
    · cases h
  | .tp l, .non, ρ, ρ', h => by simp [Tg.put] at h
  | .tp l, .bl _, ρ, ρ', h => by simp [Tg.put] at h
  | .tp l, .int _, ρ, ρ', h => by simp [Tg.put] at h
  | .tp l, .str _, ρ, ρ', h => by simp [Tg.put] at h
  | .tp l, .lst _ ds, ρ, ρ', h => by simp only [Tg.put] at h; exact tgPuts_lenE h
  | .tp l, .dic _ _, ρ, ρ', h => by simp [Tg.put] at h
  | .tp l, .set _, ρ, ρ', h => by simp [Tg.put] at h
  | .tp l, .scr _, ρ, ρ', h => by simp [Tg.put] at h
  | .tp l, .pin _ _ _, ρ, ρ', h => by simp [Tg.put] at h
  | .tp l, .err _ _, ρ, ρ', h => by simp [Tg.put] at h
theorem tgPuts_lenE : ∀ {l : List Tg} {ds : List D} {ρ ρ' : Env}, tgPuts l ds ρ = some ρ' → ρ'.length = ρ.length
  | [], [], ρ, ρ', h => by simp only [tgPuts, Option.some.injEq] at h; subst h; rfl
  | [], _ :: _, ρ, ρ', h => by simp [tgPuts] at h
  | _ :: _, [], ρ, ρ', h => by simp [tgPuts] at h
  | t :: l, d :: ds, ρ, ρ', h => by
    simp only [tgPuts] at h
    cases ht : t.put d ρ with
    | none => rw [ht] at h; cases h
    | some ρ1 => rw [ht] at h; rw [tgPuts_lenE h, Tg.put_len ht]
end
def wipeE (ρ : Env) : List Nat → Env
  | [] => ρ
  | i :: l => wipeE (ρ.set i none) l
theorem wipeE_length : ∀ (l : List Nat) (ρ : Env), (wipeE ρ l).length = ρ.length
  | [], _ => rfl
  | i :: l, ρ => by rw [wipeE, wipeE_length l, List.length_set]
theorem wipeE_some : ∀ {l : List Nat} {ρ : Env} {i : Nat} {d : D}, (wipeE ρ l)[i]? = some (some d) → ρ[i]? = some (some d) ∧ i ∉ l
  | [], _, _, _, h => ⟨h, fun z => nomatch z⟩
  | j :: l, ρ, i, d, h => by
    obtain ⟨a, b⟩ := wipeE_some (l := l) h
    by_cases e : j = i
    · subst e
      by_cases hl : j < ρ.length
      · rw [List.getElem?_set_self hl] at a; cases a
      · rw [List.getElem?_eq_none (by rw [List.length_set]; omega)] at a; cases a
    · rw [List.getElem?_set_ne e] at a
      exact ⟨a, fun z => (List.mem_cons.mp z).elim (fun z => e z.symm) b⟩
theorem wipe_in : ∀ {vs : List Nat} {σ : St} {i n : Nat}, i ∈ vs → σ.length = n → (wipe σ vs)[i]? = if i < n then some none else none
  | j :: vs, σ, i, n, h, hn => by
    subst hn
    show ((wipe σ vs).set j none)[i]? = _
    have hl := wipe_length σ vs
    by_cases hj : j = i
    · subst hj
      by_cases hlt : j < σ.length
      · rw [List.getElem?_set_self (by rw [hl]; exact hlt), if_pos hlt]
      · rw [List.getElem?_eq_none (by rw [List.length_set, hl]; omega), if_neg hlt]
    · rw [List.getElem?_set_ne hj]
      exact wipe_in ((List.mem_cons.mp h).elim (fun z => absurd z.symm hj) id) rfl
theorem wipe_keep : ∀ {vs : List Nat} {σ : St} {i : Nat}, i ∉ vs → (wipe σ vs)[i]? = σ[i]? := fun {vs σ i} h => wipe_out h

section
variable {K : PySem.W.Frag} {w : World} {P : Addr → Prop} {H : Hp} {rd : List Nat} {ρ : Env} {σ : St}
theorem View.wipe (h : View K w P H rd ρ σ) (own : List Nat) : View K w P H rd (wipeE ρ own) (L2.wipe σ own) :=
  ⟨h.fz, by rw [wipeE_length, wipe_length]; exact h.len, fun i hi d hd => by
    obtain ⟨a, b⟩ := wipeE_some hd
    obtain ⟨v, x, y⟩ := h.get i hi d a
    exact ⟨v, by rw [wipe_keep b]; exact x, y⟩⟩
theorem View.put1 (h : View K w P H rd ρ σ) {d : D} {v : V} (r : Rep K w P H d v []) (i : Nat) : View K w P H (i :: rd) (ρ.set i (some d)) (σ.set i (some v)) :=
  ⟨h.fz, by rw [List.length_set, List.length_set]; exact h.len, fun j hj d' hd => by
    by_cases e : i = j
    · subst e
      by_cases hl : i < ρ.length
      · rw [List.getElem?_set_self hl] at hd
        cases hd
        exact ⟨v, by rw [List.getElem?_set_self (by rw [← h.len]; exact hl)], r.fz (fun _ z => z) (fun _ z => nomatch z)⟩
      · rw [List.getElem?_eq_none (by rw [List.length_set]; omega)] at hd; cases hd
    · rw [List.getElem?_set_ne e] at hd ⊢
      exact h.get j ((List.mem_cons.mp hj).elim (fun z => absurd z.symm e) id) d' hd⟩
/-- more is frozen -/
theorem View.grow {P' : Addr → Prop} {H' : Hp} {as : List Addr} (h : View K w P H rd ρ σ) (g : Grow P P' as H H') (th : ∀ a ∈ as, ∃ o, H a = some o) : View K w P' H' rd ρ σ :=
  ⟨g.fz h.fz th, h.len, fun i hi d hd => by
    obtain ⟨v, a, b⟩ := h.get i hi d hd
    exact ⟨v, a, b.mono g.same g.le⟩⟩
end

/-- a target within a block: the slots that are read -/
def tGv (K : PySem.W.Frag) (w : World) (rd : List Nat) (t : Tg) : TG := fun v σ H Q => ∃ ρ P d, View K w P H rd ρ σ ∧ Rep K w P H d v [] ∧ match t.put d ρ with
  | some ρ' => ∀ σ', (∀ j, j ∉ t.slots → σ'[j]? = σ[j]?) → View K w P H (t.slots ++ rd) ρ' σ' → Q σ' H
  | none => False
def tGvs (K : PySem.W.Frag) (w : World) (rd : List Nat) (l : List Tg) : TGs := fun vs σ H Q => ∃ ρ P ds, View K w P H rd ρ σ ∧ Reps K w P H ds vs [] ∧ match tgPuts l ds ρ with
  | some ρ' => ∀ σ', (∀ j, j ∉ tgSlots l → σ'[j]? = σ[j]?) → View K w P H (tgSlots l ++ rd) ρ' σ' → Q σ' H
  | none => False
abbrev DGv (X : Cx) (e : Expr) (rd : List Nat) (t : Tg) : Prop := PG X e (tGv X.K X.w rd t)
abbrev DGvs (X : Cx) (e : List Expr) (rd : List Nat) (t : List Tg) : Prop := PGs X e (tGvs X.K X.w rd t)
theorem View.sub {K : PySem.W.Frag} {w : World} {P : Addr → Prop} {H : Hp} {rd rd' : List Nat} {ρ : Env} {σ : St} (h : View K w P H rd ρ σ) (s : ∀ i ∈ rd', i ∈ rd) : View K w P H rd' ρ σ := h.mono (.refl _) s
theorem tgPuts_len : ∀ (l : List Tg) (ds : List D) (ρ ρ' : Env), tgPuts l ds ρ = some ρ' → ds.length = l.length := by
  intro l
  induction l with
  | nil => intro ds ρ ρ' h; cases ds with
    | nil => rfl
    | cons _ _ => simp [tgPuts] at h
  | cons t l ih => intro ds ρ ρ' h; cases ds with
    | nil => simp [tgPuts] at h
    | cons d ds =>
      simp only [tgPuts] at h
      split at h
      · simp [ih ds _ _ h]
      · cases h
theorem Reps.nil_split {K : PySem.W.Frag} {w : World} {P : Addr → Prop} {H : Hp} {d : D} {ds : List D} {v : V} {vs : List V} (h : Reps K w P H (d :: ds) (v :: vs) []) : Rep K w P H d v [] ∧ Reps K w P H ds vs [] := by
  obtain ⟨b1, b2, e, r1, r2⟩ := Reps.split (xs := [d]) (us := [v]) rfl h
  obtain ⟨rfl, rfl⟩ := List.append_eq_nil_iff.mp e.symm
  generalize hb : ([] : List Addr) = b at r1
  cases r1 with
  | cons a c =>
    cases c
    rw [List.append_nil] at hb
    subst hb
    exact ⟨a, r2⟩
section
variable {X : Cx} {e : Expr} {es : List Expr} {rd : List Nat} {pos : Pos}
theorem dgv_nm {i : Nat} (h : PG X e (gName i)) : DGv X e rd (.nm i) := PGi h fun v σ H Q ⟨ρ, P, d, vw, r, q⟩ => by
  simp only [Tg.put] at q
  refine q _ (fun j hj => ?_) (vw.put1 r i)
  rw [List.getElem?_set_ne (fun z => hj (by rw [z]; simp [Tg.slots]))]
theorem dgvs_nil : DGvs X [] rd [] := PGsi pgs_nil fun vs σ H Q ⟨ρ, P, ds, vw, r, q⟩ => by
  cases ds with
  | nil =>
    cases r
    simp only [tgPuts] at q
    exact ⟨rfl, q σ (fun _ _ => rfl) vw⟩
  | cons _ _ => simp only [tgPuts] at q
theorem dgvs_cons {t : Tg} {l : List Tg} (h1 : DGv X e rd t) (h2 : DGvs X es (t.slots ++ rd) l) (hs : (assignEach (e :: es) X.env).map (·.2) = assign e X.env :: (assignEach es X.env).map (·.2) := by rfl) : DGvs X (e :: es) rd (t :: l) :=
  PGsi (pgs_cons h1 h2 hs) fun vs σ H Q ⟨ρ, P, ds, vw, r, q⟩ => by
    cases ds with
    | nil => simp only [tgPuts] at q
    | cons d ds =>
      cases vs with
      | nil => have := r.length; simp at this
      | cons v vs =>
        obtain ⟨r1, r2⟩ := r.nil_split
        refine ⟨v, vs, rfl, ρ, P, d, vw, r1, ?_⟩
        simp only [tgPuts] at q
        cases ht : t.put d ρ with
        | none => simp only [ht] at q
        | some ρ' =>
          simp only [ht] at q ⊢
          intro σ1 k1 vw1
          refine ⟨ρ', P, ds, vw1, r2, ?_⟩
          cases hl : tgPuts l ds ρ' with
          | none => simp only [hl] at q
          | some ρ2 =>
            simp only [hl] at q ⊢
            intro σ2 k2 vw2
            refine q σ2 (fun j hj => ?_) (vw2.sub fun i hi => ?_)
            · simp only [tgSlots, List.mem_append, not_or] at hj
              rw [k2 j hj.2, k1 j hj.1]
            · simp only [tgSlots, List.mem_append] at hi ⊢
              rcases hi with (z | z) | z
              · exact .inr (.inl z)
              · exact .inl z
              · exact .inr (.inr z)
theorem dgv_tup {k n : Nat} {l : List Tg} (hc : X.calm = true) (h : DGvs X es rd l) (hn : (assignEach es X.env).length = n := by rfl) (hl : l.length = n := by rfl) (hst : (assignEach es X.env).findIdx? (·.1) = none := by rfl) : DGv X (.Tuple es k pos) rd (.tp l) :=
  PGi (PG.or' (pg_tup hc h hn hst) (pg_lst hc h hn hst)) fun v σ H Q ⟨ρ, P, d, vw, r, q⟩ => by
    cases d with
    | tup ds =>
      cases r with
      | @tup adr vs1 _ _ ha ra =>
        simp only [Tg.put] at q
        cases hp : tgPuts l ds ρ with
        | none => simp only [hp] at q
        | some ρ' =>
          have hlen := tgPuts_len l ds ρ ρ' hp
          have ln := ra.length
          simp only [hp] at q
          refine .inl ⟨adr, vs1, rfl, .of ha, by omega, ρ, P, ds, vw, ra, ?_⟩
          rw [hp]
          exact q
    | lst o ds =>
      cases r with
      | @lstF adr vs1 _ ha ra =>
        simp only [Tg.put] at q
        cases hp : tgPuts l ds ρ with
        | none => simp only [hp] at q
        | some ρ' =>
          have hlen := tgPuts_len l ds ρ ρ' hp
          have ln := ra.length
          simp only [hp] at q
          refine .inr ⟨adr, vs1, rfl, ha.sql, by omega, ρ, P, ds, vw, ra, ?_⟩
          rw [hp]
          exact q
    | _ => simp only [Tg.put] at q
end

def lcL (t : Tg) (c f : Ev) (ρ : Env) : List D → LR
  | [] => .vals []
  | x :: xs => match t.put x ρ with
    | none => .stuck
    | some ρ1 => match c ρ1 with
      | .val (.bl true) => (match f ρ1 with
        | .val d => (match lcL t c f ρ xs with
          | .vals ds => .vals (d :: ds)
          | _ => .stuck)
        | _ => .stuck)
      | .val (.bl false) => lcL t c f ρ xs
      | _ => .stuck
/-- [f for t in .. if c]; own: the slots of the comprehension's names -/
def eLc (l : Lv) (gi : List D → Option (List D)) (t : Tg) (own : List Nat) (c f : Ev) : Ev := fun ρ => match l ρ with
  | .vals ds => (match gi ds with
    | some xs => (match lcL t c f (wipeE ρ own) (fzs xs) with
      | .vals rs => if rs.length ≤ sizeLine then .val (.lst true rs) else .stuck
      | _ => .stuck)
    | none => .stuck)
  | .exc c n => .exc c n
  | .stuck => .stuck
def cYes : Ev := fun _ => .val (.bl true)
abbrev W0 : WX := fun _ _ _ _ => False
theorem tYes_of {L : Lt} {σ : St} {H : Hp} {Q : Bool → Hp → Prop} (h : tT L [] cYes σ H Q) : tYes σ H Q := by
  obtain ⟨ρ, P, vw, q⟩ := h
  exact q H (.refl _)
theorem PTsi {X : Cx} {e : List Expr} {t t' : TT} (h : PTs X e t) (i : ∀ σ H Q, t' σ H Q → t σ H Q) : PTs X e t' := ⟨fun pins s σ H Q I q => h.run pins s σ H Q I (i σ H Q q)⟩
abbrev DTs (X : Cx) (W : WX) (es : List Expr) (rd : List Nat) (f : Ev) : Prop := PTs X es (tT (lt X W) rd f)
theorem dts_nil {X : Cx} {W : WX} : DTs X W [] [] cYes := PTsi pts_nil fun σ H Q h => tYes_of h
theorem dts_one {X : Cx} {W : WX} {c : Expr} {rd : List Nat} {f : Ev} (h : DT X W c rd f) : DTs X W [c] rd f := pts_one h

theorem lcL_drop {t : Tg} {c f : Ev} {ρ : Env} {xs : List D} {i : Nat} {x : D} (h : xs[i]? = some x) : lcL t c f ρ (xs.drop i) = lcL t c f ρ (x :: xs.drop (i + 1)) := by
  rw [List.drop_eq_getElem_cons (List.getElem?_eq_some_iff.mp h).1, (List.getElem?_eq_some_iff.mp h).2]
theorem lc_of {L : Lt} {rdi rdc rdf : List Nat} {l : Lv} {gi : List D → Option (List D)} {t : Tg} {own : List Nat} {c f : Ev} (hown : ∀ i ∈ t.slots, i ∈ own) {σ : St} {H : Hp} {Q : VK}
    (h : tE L (rdi ++ (rdc ++ rdf)) (eLc l gi t own c f) σ H Q) :
    tLc (tI L rdi l gi) (tGv L.K L.w (rdc ++ rdf) t) (tT ⟨L.K, L.w, L.mg, W0⟩ rdc c) (tE ⟨L.K, L.w, L.mg, W0⟩ rdf f) own σ H Q := by
  obtain ⟨ρ, P, vw, q⟩ := h
  refine ⟨ρ, P, vw.left, ?_⟩
  unfold eLc at q
  cases hl : l ρ with
  | exc c n => rw [hl] at q; exact q
  | stuck => rw [hl] at q; exact q
  | vals ds =>
    rw [hl] at q
    cases hx : gi ds with
    | none => simp only [hx] at q
    | some xs =>
      simp only [hx] at q ⊢
      cases hL : lcL t c f (wipeE ρ own) (fzs xs) with
      | exc c n => simp only [hL] at q
      | stuck => simp only [hL] at q
      | vals rs =>
        simp only [hL] at q
        by_cases hz : rs.length ≤ sizeLine
        · simp only [hz, if_true] at q
          intro J fvs gd gv H1 o gh ok Dd hD
          obtain ⟨P1, a1, g1, rr1, ow1, n1⟩ := o
          have th1 : ∀ a ∈ a1, ∃ o, H1 a = some o := fun a z => (rr1.there a z).some
          have fz1 : Fz P1 H1 := g1.fz vw.fz (fun _ z => nomatch z)
          -- what the source holds is frozen too
          have rrf : Reps L.K L.w (fun a => P1 a ∨ a ∈ a1) H1 (fzs ds) fvs [] := rr1.fz (fun _ z => .inl z) (fun _ z => .inr z)
          have gi1 : Grow P (fun a => P1 a ∨ a ∈ a1) [] H H1 := ⟨g1.same, fun a z => .inl (g1.le a z), fun a z => z.elim (g1.new a) fun z => .inr (.inr ⟨(n1 a z).elim (fun z => nomatch z) id, th1 a z⟩)⟩
          generalize hPi : (fun a => P1 a ∨ a ∈ a1) = Pi at rrf gi1
          have fzi : Fz Pi H1 := gi1.fz vw.fz (fun _ z => nomatch z)
          have vwi : View L.K L.w Pi H1 (rdc ++ rdf) (wipeE ρ own) (L2.wipe σ own) := (vw.right.grow gi1 (fun _ z => nomatch z)).wipe own
          have npD : ¬ Pi Dd := fun z => by obtain ⟨o, ho⟩ := fzi Dd z; rw [hD] at ho; cases ho
          have e0 : Same H1 (upd H1 Dd (.lst [])) := same_new hD
          -- the invariant
          refine ⟨fun i m H2 => m = (fzs xs).length - i ∧ i ≤ (fzs xs).length ∧ Same H1 H2 ∧ ∃ acc vs P' as rest, H2 Dd = some (.lst vs) ∧ (∀ a, Pi a → P' a) ∧ (∀ a, P' a → Pi a ∨ (H1 a = none ∧ ∃ o, H2 a = some o)) ∧ ¬ P' Dd ∧ Dd ∉ as ∧
            Reps L.K L.w P' H2 acc vs as ∧ Own P' as ∧ (∀ a ∈ as, H1 a = none) ∧ lcL t c f (wipeE ρ own) ((fzs xs).drop i) = .vals rest ∧ acc ++ rest = rs, ⟨_, rfl, Nat.zero_le _, e0, [], [], Pi, [], rs, upd_same, fun _ z => z, fun _ z => .inl z, npD, (fun z => nomatch z), .nil, .nil, (fun _ z => nomatch z), by simpa using hL, rfl⟩, ?_⟩
          rintro i m H2 ⟨rfl, hi, e2, acc, vs, P', as, rest, hDv, p1, p2, npD', nDa, racc, ow, fra, hrest, hall⟩
          have lx : (fzs xs).length = xs.length := by rw [fzs_eq, List.length_map]
          have fz' : Fz P' H2 := fun a z => (p2 a z).elim (fun z => by obtain ⟨o, h⟩ := fzi a z; exact ⟨o, e2 _ _ h⟩) fun z => z.2
          have okz := ok P' H2 fz' ((gh Pi rrf).mono e2 p1) i
          by_cases hlt : i < xs.length
          · obtain ⟨x, hx'⟩ : ∃ x, xs[i]? = some x := ⟨xs[i], List.getElem?_eq_getElem hlt⟩
            rw [lcL_drop (fzs_get hx')] at hrest
            unfold lcL at hrest
            cases ht : t.put x.fz (wipeE ρ own) with
            | none => simp only [ht] at hrest; cases hrest
            | some ρ1 =>
            simp only [ht] at hrest
            refine .inr ⟨(okz.1 x hx').1, fun H5 => Same H1 H5 ∧ ∃ acc vs P' as rest, H5 Dd = some (.lst vs) ∧ (∀ a, Pi a → P' a) ∧ (∀ a, P' a → Pi a ∨ (H1 a = none ∧ ∃ o, H5 a = some o)) ∧ ¬ P' Dd ∧ Dd ∉ as ∧
              Reps L.K L.w P' H5 acc vs as ∧ Own P' as ∧ (∀ a ∈ as, H1 a = none) ∧ lcL t c f (wipeE ρ own) ((fzs xs).drop (i + 1)) = .vals rest ∧ acc ++ rest = rs, fun H5 z => ⟨_, by rw [lx]; omega, rfl, by rw [lx]; omega, z⟩, fun v H3 y => ?_⟩
            obtain ⟨P3, a3, g3, r3, o3, n3⟩ := (okz.1 x hx').2 v H3 y
            have ea3 : a3 = [] := Rep.fz_nil (d := x) r3
            subst ea3
            have vw3 : View L.K L.w P3 H3 (rdc ++ rdf) (wipeE ρ own) (L2.wipe σ own) :=
              ⟨g3.fz fz' (fun _ z => nomatch z), vwi.len, fun i hi d hd => by
                obtain ⟨v, a, b⟩ := vwi.get i hi d hd
                exact ⟨v, a, b.mono (e2.trans g3.same) fun a z => g3.le a (p1 a z)⟩⟩
            refine ⟨wipeE ρ own, P3, x.fz, vw3, r3, ?_⟩
            rw [ht]
            intro σ2 kσ vwσ
            have new3 : ∀ a, P3 a → P' a ∨ (H2 a = none ∧ ∃ o, H3 a = some o) := fun a z => (g3.new a z).elim .inl fun z => z.elim (fun z => nomatch z) .inr
            refine ⟨?_, ρ1, P3, vwσ.sub (fun i hi => List.mem_append_right _ (List.mem_append_left _ hi)), ?_⟩
            · -- only the comprehension's own names changed
              apply List.ext_getElem?
              intro j
              by_cases hj : j ∈ own
              · rw [wipe_in hj (by rw [← vwσ.len, Tg.put_len ht, wipeE_length, vw.len]), wipe_in hj rfl]
              · rw [wipe_keep hj, kσ j (fun z => hj (hown j z)), wipe_keep hj]
            · cases hc : c ρ1 with
              | val dc =>
                cases dc with
                | bl b =>
                  simp only [hc] at hrest
                  intro H4 e4
                  cases b with
                  | false =>
                    simp only [Bool.false_eq_true, if_false]
                    simp only at hrest
                    refine ⟨e2.trans (g3.same.trans e4), acc, vs, P', as, rest, e4 _ _ (g3.same _ _ hDv), p1, fun a z => (p2 a z).elim .inl fun ⟨z, o, y⟩ => .inr ⟨z, o, e4 _ _ (g3.same _ _ y)⟩, npD', nDa, racc.mono (g3.same.trans e4) fun _ z => z, ow, fra, hrest, hall⟩
                  | true =>
                    simp only [if_true]
                    cases hf : f ρ1 with
                    | val d =>
                      simp only [hf] at hrest
                      cases hr2 : lcL t c f (wipeE ρ own) ((fzs xs).drop (i + 1)) with
                      | vals rest2 =>
                        simp only [hr2] at hrest
                        cases hrest
                        refine ⟨ρ1, P3, (vwσ.sub (fun i hi => List.mem_append_right _ (List.mem_append_right _ hi))).same e4, ?_⟩
                        rw [hf]
                        rintro yv H5 ⟨P5, a5, g5, r5, o5, n5⟩
                        have fr5 : ∀ a ∈ a5, H4 a = none := fun a z => (n5 a z).elim (fun z => nomatch z) id
                        have e25 : Same H2 H5 := g3.same.trans (e4.trans g5.same)
                        have hD5 : H5 Dd = some (.lst vs) := e25 _ _ hDv
                        have new5 : ∀ a, P5 a → P' a ∨ (H2 a = none ∧ ∃ o, H5 a = some o) := fun a z => by
                          rcases g5.new a z with z | z | ⟨z, o, y⟩
                          · rcases new3 a z with z | ⟨z, o, y⟩
                            · exact .inl z
                            · exact .inr ⟨z, o, g5.same _ _ (e4 _ _ y)⟩
                          · cases z
                          · exact .inr ⟨g3.same.free (e4.free z), o, y⟩
                        have le5 : ∀ a, P' a → P5 a := fun a z => g5.le a (g3.le a z)
                        have np5 : ∀ a, (∃ o, H2 a = some o) → ¬ P' a → ¬ P5 a := fun a ⟨o, h⟩ n z => (new5 a z).elim n fun ⟨z, _⟩ => by rw [h] at z; cases z
                        have npD5 : ¬ P5 Dd := np5 Dd ⟨_, hDv⟩ npD'
                        have nD5 : Dd ∉ a5 := fun z => by have := fr5 Dd z; rw [e4 _ _ (g3.same _ _ hDv)] at this; cases this
                        have st5 : ∀ a ∈ as, ∃ o, H2 a = some o := fun a z => (racc.there a z).some
                        have wr : Wr P5 H5 Dd := ⟨.inl ⟨_, hD5⟩, npD5⟩
                        have lnv := racc.length
                        refine ⟨vs, hD5, ?_, ?_⟩
                        · have : rs.length = acc.length + (rest2.length + 1) := by rw [← hall]; simp
                          omega
                        refine ⟨fun a o ho => ?_, acc ++ [d], vs ++ [yv], P5, as ++ a5, rest2, upd_same, fun a z => le5 a (p1 a z), fun a z => ?_, npD5, fun z => (List.mem_append.mp z).elim nDa nD5, ?_, ⟨?_, fun a z => ?_⟩, fun a z => ?_, rfl, by rw [← hall]; simp⟩
                        · rw [upd_ne (ne_of_none ho hD)]
                          exact e25 _ _ (e2 _ _ ho)
                        · have : Pi a ∨ (H1 a = none ∧ ∃ o, H5 a = some o) := by
                            rcases new5 a z with z | ⟨z, y⟩
                            · rcases p2 a z with z | ⟨z, o, y⟩
                              · exact .inl z
                              · exact .inr ⟨z, o, e25 _ _ y⟩
                            · exact .inr ⟨e2.free z, y⟩
                          rcases this with z | ⟨z, o, y⟩
                          · exact .inl z
                          · by_cases hDa : a = Dd
                            · subst hDa; exact .inr ⟨z, _, upd_same⟩
                            · exact .inr ⟨z, o, by rw [upd_ne hDa]; exact y⟩
                        · exact ((racc.mono e25 le5).upd wr nDa).append (by have := Reps.cons (r5.upd (o := .lst (vs ++ [yv])) wr nD5) .nil; rw [List.append_nil] at this; exact this)
                        · exact List.nodup_append.mpr ⟨ow.nd, o5.nd, fun x hx y hy e => by
                            subst e
                            obtain ⟨o, ho⟩ := st5 x hx
                            have := fr5 x hy
                            rw [e4 _ _ (g3.same _ _ ho)] at this
                            cases this⟩
                        · rcases List.mem_append.mp z with z | z
                          · exact np5 a (st5 a z) (ow.np a z)
                          · exact o5.np a z
                        · rcases List.mem_append.mp z with z | z
                          · exact fra a z
                          · exact e2.free (g3.same.free (e4.free (fr5 a z)))
                      | exc c n => simp only [hr2] at hrest; cases hrest
                      | stuck => simp only [hr2] at hrest; cases hrest
                    | exc c n => simp only [hf] at hrest; cases hrest
                    | stuck => simp only [hf] at hrest; cases hrest
                | _ => simp only [hc] at hrest; cases hrest
              | exc c n => simp only [hc] at hrest; cases hrest
              | stuck => simp only [hc] at hrest; cases hrest
          · have hdr : (fzs xs).drop i = [] := List.drop_eq_nil_iff.mpr (by rw [lx]; omega)
            rw [hdr] at hrest
            unfold lcL at hrest
            cases hrest
            rw [List.append_nil] at hall
            subst hall
            refine .inl ⟨okz.2 (by omega), q _ _ ⟨P', Dd :: as, ⟨g1.same.trans e2, fun a z => p1 a (gi1.le a z), fun a z => ?_⟩, .lstO hDv racc, ⟨List.nodup_cons.mpr ⟨nDa, ow.nd⟩, fun a z => ?_⟩, fun a z => .inr ?_⟩⟩
            · rcases p2 a z with z | ⟨z, o, y⟩
              · rcases gi1.new a z with z | z | ⟨z, o, y⟩
                · exact .inl z
                · cases z
                · exact .inr (.inr ⟨z, o, e2 _ _ y⟩)
              · exact .inr (.inr ⟨g1.same.free z, o, y⟩)
            · rcases List.mem_cons.mp z with rfl | z
              · exact npD'
              · exact ow.np a z
            · rcases List.mem_cons.mp z with rfl | z
              · exact g1.same.free hD
              · exact g1.same.free (fra a z)
        · simp only [hz, if_false] at q
end DL

set_option Elab.async false
set_option linter.all false
set_option maxRecDepth 100000
namespace DL
open PySem PySem.Spec L2
open PyProof.Rows hiding St

section
variable {K : PySem.W.Frag} {w : World} {P : Addr → Prop} {H : Hp}
theorem Reps.cons_inv {d : D} {ds : List D} {vs : List V} {as : List Addr} (h : Reps K w P H (d :: ds) vs as) : ∃ v us a1 a2, vs = v :: us ∧ as = a1 ++ a2 ∧ Rep K w P H d v a1 ∧ Reps K w P H ds us a2 := by
  cases h with
  | cons a b => exact ⟨_, _, _, _, rfl, rfl, a, b⟩
theorem Reps.one {d : D} {v : V} {as : List Addr} (h : Reps K w P H [d] [v] as) : Rep K w P H d v as := by
  obtain ⟨v', us, a1, a2, e, rfl, r1, r2⟩ := h.cons_inv
  cases e
  cases r2
  rw [List.append_nil]
  exact r1
theorem Reps.two {d e : D} {v u : V} {as : List Addr} (h : Reps K w P H [d, e] [v, u] as) : ∃ a1 a2, as = a1 ++ a2 ∧ Rep K w P H d v a1 ∧ Rep K w P H e u a2 := by
  obtain ⟨v', us, a1, a2, e, rfl, r1, r2⟩ := h.cons_inv
  cases e
  exact ⟨a1, a2, rfl, r1, r2.one⟩
theorem Reps.three {d e f : D} {v u x : V} {as : List Addr} (h : Reps K w P H [d, e, f] [v, u, x] as) : ∃ a1 a2 a3, as = a1 ++ (a2 ++ a3) ∧ Rep K w P H d v a1 ∧ Rep K w P H e u a2 ∧ Rep K w P H f x a3 := by
  obtain ⟨v', us, a1, a2, e, rfl, r1, r2⟩ := h.cons_inv
  cases e
  obtain ⟨a3, a4, rfl, r3, r4⟩ := r2.two
  exact ⟨a1, a3, a4, rfl, r1, r3, r4⟩
theorem Reps.get : ∀ {ds : List D} {vs : List V} {as : List Addr}, Reps K w P H ds vs as → ∀ {i : Nat} {d : D}, ds[i]? = some d → ∃ v bs, vs[i]? = some v ∧ Rep K w P H d v bs ∧ bs.Sublist as
  | _, _, _, .nil, i, d, h => by simp at h
  | _, _, _, .cons a b, 0, d, h => by
    simp at h
    subst h
    exact ⟨_, _, rfl, a, List.sublist_append_left _ _⟩
  | _, _, _, .cons a b, i + 1, d, h => by
    obtain ⟨v, bs, x, y, z⟩ := b.get (i := i) (by simpa using h)
    exact ⟨v, bs, by simpa using x, y, z.trans (List.sublist_append_right _ _)⟩
theorem Reps.drop : ∀ (n : Nat) {ds : List D} {vs : List V} {as : List Addr}, Reps K w P H ds vs as → ∃ bs, Reps K w P H (ds.drop n) (vs.drop n) bs ∧ bs.Sublist as
  | 0, _, _, as, h => ⟨as, h, List.Sublist.refl _⟩
  | n + 1, _, _, _, .nil => ⟨[], .nil, List.Sublist.refl _⟩
  | n + 1, _, _, _, .cons a b => by
    obtain ⟨bs, x, y⟩ := b.drop n
    exact ⟨bs, x, y.trans (List.sublist_append_right _ _)⟩
theorem Reps.take : ∀ (n : Nat) {ds : List D} {vs : List V} {as : List Addr}, Reps K w P H ds vs as → ∃ bs, Reps K w P H (ds.take n) (vs.take n) bs ∧ bs.Sublist as
  | 0, _, _, as, h => ⟨[], .nil, List.nil_sublist _⟩
  | n + 1, _, _, _, .nil => ⟨[], .nil, List.Sublist.refl _⟩
  | n + 1, _, _, _, .cons (as := a1) a b => by
    obtain ⟨bs, x, y⟩ := b.take n
    exact ⟨a1 ++ bs, .cons a x, List.Sublist.append (List.Sublist.refl _) y⟩
theorem Rep.lst_inv {o : Bool} {xs : List D} {v : V} {as : List Addr} (h : Rep K w P H (.lst o xs) v as) : ∃ a vs bs, v = .ref a ∧ SqL K H a vs ∧ Reps K w P H xs vs bs ∧ bs.Sublist as := by
  cases h with
  | lstF a b => exact ⟨_, _, _, rfl, a.sql, b, List.Sublist.refl _⟩
  | lstO a b => exact ⟨_, _, _, rfl, .of a, b, List.sublist_cons_self _ _⟩
theorem Rep.tup_inv {xs : List D} {v : V} {as : List Addr} (h : Rep K w P H (.tup xs) v as) : ∃ a vs, v = .ref a ∧ H a = some (.tup vs) ∧ Reps K w P H xs vs as := by
  cases h with
  | tup a b => exact ⟨_, _, rfl, a, b⟩
theorem Own.sub {P : Addr → Prop} {as bs : List Addr} (o : Own P as) (s : bs.Sublist as) : Own P bs := ⟨o.nd.sublist s, fun a z => o.np a (s.subset z)⟩
/-- a part of what was given -/
theorem Out.part {as bs : List Addr} {r : D} {v : V} (o : Own P as) (s : bs.Sublist as) (h : Rep K w P H r v bs) : Out K w P as H H r v := ⟨P, bs, .refl, h, o.sub s, fun a z => .inl (s.subset z)⟩
theorem Out.weak {as bs : List Addr} {H' : Hp} {r : D} {v : V} (s : bs.Sublist as) (h : Out K w P bs H H' r v) : Out K w P as H H' r v := by
  obtain ⟨P', cs, g, rr, ow, n⟩ := h
  exact ⟨P', cs, ⟨g.same, g.le, fun a z => (g.new a z).elim .inl fun z => z.elim (fun z => .inr (.inl (s.subset z))) fun z => .inr (.inr z)⟩, rr, ow, fun a z => (n a z).elim (fun z => .inl (s.subset z)) .inr⟩
theorem Out.newT {as : List Addr} {ds : List D} {vs : List V} {p : Addr} (hp : H p = none) (rr : Reps K w P H ds vs as) (ow : Own P as) : Out K w P as H (upd H p (.tup vs)) (.tup ds) (.ref p) :=
  ⟨P, as, .of_same (same_new hp), .tup upd_same (rr.mono (same_new hp) fun _ z => z), ow, fun _ z => .inl z⟩
end

theorem OpRi {X : Cx} {f : Value → Value → Sem Value} {r r' : R2} (h : OpR X f r) (i : ∀ x y H Q, r' x y H Q → r x y H Q) : OpR X f r' := fun pins s σ H x y v u Q I rx ry q => h pins s σ H x y v u Q I rx ry (i x y H Q q)
theorem CallRi {X : Cx} {f : Value} {r r' : List V → Hp → VK → Prop} (h : CallR X f r) (i : ∀ xs H Q, r' xs H Q → r xs H Q) : CallR X f r' := fun pins s σ H xs us Q I rv q => h pins s σ H xs us Q I rv (i xs H Q q)
theorem UnRi {X : Cx} {f : Value → Sem Value} {r r' : V → Hp → VK → Prop} (h : UnR X f r) (i : ∀ x H Q, r' x H Q → r x H Q) : UnR X f r' := fun pins s σ H x v Q I rv q => h pins s σ H x v Q I rv (i x H Q q)
/-- what rD says of two values -/
theorem rD2 {K : PySem.W.Frag} {w : World} {g : List D → ER} {x y : V} {H : Hp} {Q : VK} (h : rD K w g [x, y] H Q) : ∃ P a1 a2 d e r, Fz P H ∧ Rep K w P H d x a1 ∧ Rep K w P H e y a2 ∧ Own P (a1 ++ a2) ∧ g [d, e] = .val r ∧ ∀ v H', Out K w P (a1 ++ a2) H H' r v → Q v H' := by
  obtain ⟨P, as, ds, r, fz, rr, ow, hg, q⟩ := h
  have ln := rr.length
  match ds, ln with
  | [d, e], _ =>
    obtain ⟨a1, a2, rfl, r1, r2⟩ := rr.two
    exact ⟨P, a1, a2, d, e, r, fz, r1, r2, ow, hg, q⟩
theorem rD1 {K : PySem.W.Frag} {w : World} {g : List D → ER} {x : V} {H : Hp} {Q : VK} (h : rD K w g [x] H Q) : ∃ P as d r, Fz P H ∧ Rep K w P H d x as ∧ Own P as ∧ g [d] = .val r ∧ ∀ v H', Out K w P as H H' r v → Q v H' := by
  obtain ⟨P, as, ds, r, fz, rr, ow, hg, q⟩ := h
  have ln := rr.length
  match ds, ln with
  | [d], _ => exact ⟨P, as, d, r, fz, rr.one, ow, hg, q⟩
theorem rD3 {K : PySem.W.Frag} {w : World} {g : List D → ER} {x y z : V} {H : Hp} {Q : VK} (h : rD K w g [x, y, z] H Q) : ∃ P a1 a2 a3 d e f r, Fz P H ∧ Rep K w P H d x a1 ∧ Rep K w P H e y a2 ∧ Rep K w P H f z a3 ∧ Own P (a1 ++ (a2 ++ a3)) ∧ g [d, e, f] = .val r ∧
    ∀ v H', Out K w P (a1 ++ (a2 ++ a3)) H H' r v → Q v H' := by
  obtain ⟨P, as, ds, r, fz, rr, ow, hg, q⟩ := h
  have ln := rr.length
  match ds, ln with
  | [d, e, f], _ =>
    obtain ⟨a1, a2, a3, rfl, r1, r2, r3⟩ := rr.three
    exact ⟨P, a1, a2, a3, d, e, f, r, fz, r1, r2, r3, ow, hg, q⟩
theorem Rep.int_eq {K : PySem.W.Frag} {w : World} {P : Addr → Prop} {H : Hp} {i : Int} {v : V} {as : List Addr} (h : Rep K w P H (.int i) v as) : v = .int i ∧ as = [] := by cases h; exact ⟨rfl, rfl⟩
theorem Rep.bl_eq {K : PySem.W.Frag} {w : World} {P : Addr → Prop} {H : Hp} {i : Bool} {v : V} {as : List Addr} (h : Rep K w P H (.bl i) v as) : v = .bl i ∧ as = [] := by cases h; exact ⟨rfl, rfl⟩
theorem Rep.str_eq {K : PySem.W.Frag} {w : World} {P : Addr → Prop} {H : Hp} {i : Str} {v : V} {as : List Addr} (h : Rep K w P H (.str i) v as) : v = .str i ∧ as = [] := by cases h; exact ⟨rfl, rfl⟩
theorem Out.int {K : PySem.W.Frag} {w : World} {P : Addr → Prop} {H : Hp} {as : List Addr} (i : Int) : Out K w P as H H (.int i) (.int i) := .plain (.refl _) (.int i)
theorem Out.bl {K : PySem.W.Frag} {w : World} {P : Addr → Prop} {H : Hp} {as : List Addr} (i : Bool) : Out K w P as H H (.bl i) (.bl i) := .plain (.refl _) (.bl i)
theorem Out.str {K : PySem.W.Frag} {w : World} {P : Addr → Prop} {H : Hp} {as : List Addr} (i : Str) : Out K w P as H H (.str i) (.str i) := .plain (.refl _) (.str i)

/-- two ints, under C -/
def gI2 (C : Int → Int → Prop) [∀ i j, Decidable (C i j)] (f : Int → Int → D) : List D → ER
  | [.int i, .int j] => if C i j then .val (f i j) else .stuck
  | _ => .stuck
theorem NoX.i2 {C : Int → Int → Prop} [∀ i j, Decidable (C i j)] {f : Int → Int → D} : NoX (gI2 C f) := fun ds c n h => by
  unfold gI2 at h
  split at h
  · split at h <;> cases h
  · cases h
def V.dat : V → D
  | .int i => .int i | .bl b => .bl b | .str x => .str x | _ => .non
theorem rD_i2 {K : PySem.W.Frag} {w : World} {C : Int → Int → Prop} [∀ i j, Decidable (C i j)] {f : Int → Int → D} {x y : V} {H : Hp} {Q : VK} (h : rD K w (gI2 C f) [x, y] H Q) :
    ∃ i j, x = .int i ∧ y = .int j ∧ C i j ∧ ∀ v, (∀ P, Rep K w P H (f i j) v []) → Q v H := by
  obtain ⟨P, a1, a2, d, e, r, fz, r1, r2, ow, hg, q⟩ := rD2 h
  unfold gI2 at hg
  split at hg
  · rename_i i j he
    injection he with e1 e2
    injection e2 with e2 _
    subst e1 e2
    split at hg
    · rename_i hc
      cases hg
      obtain ⟨rfl, rfl⟩ := r1.int_eq
      obtain ⟨rfl, rfl⟩ := r2.int_eq
      exact ⟨i, j, rfl, rfl, hc, fun v rv => q v H (.plain (.refl _) (rv P))⟩
    · cases hg
  · cases hg
section
variable {X : Cx}
theorem opI2 {f : Value → Value → Sem Value} {C C' : Int → Int → Prop} [∀ i j, Decidable (C i j)] {g : Int → Int → Int} (h : OpR X f (rI C' fun i j => .int (g i j))) (hc : ∀ i j, C i j → C' i j) : Op2 X f (gI2 C fun i j => .int (g i j)) :=
  OpRi h fun x y H Q q => by
    obtain ⟨i, j, e1, e2, c, k⟩ := rD_i2 q
    exact ⟨i, j, e1, e2, hc i j c, k _ fun P => .int _⟩
theorem opI20 {f : Value → Value → Sem Value} {g : Int → Int → Int} (h : OpR X f (rI0 fun i j => .int (g i j))) : Op2 X f (gI2 (fun _ _ => True) fun i j => .int (g i j)) :=
  OpRi h fun x y H Q q => by
    obtain ⟨i, j, e1, e2, c, k⟩ := rD_i2 q
    exact ⟨i, j, e1, e2, k _ fun P => .int _⟩
theorem opB20 {f : Value → Value → Sem Value} {g : Int → Int → Bool} (h : OpR X f (rI0 fun i j => .bl (g i j))) : Op2 X f (gI2 (fun _ _ => True) fun i j => .bl (g i j)) :=
  OpRi h fun x y H Q q => by
    obtain ⟨i, j, e1, e2, c, k⟩ := rD_i2 q
    exact ⟨i, j, e1, e2, k _ fun P => .bl _⟩
/-- what a product asks: the one is short, or both together are -/
def MulOk (i j : Int) : Prop := i.natAbs.log2 + j.natAbs.log2 < 1000000
instance (i j : Int) : Decidable (MulOk i j) := by unfold MulOk; infer_instance
def DivOk (_ j : Int) : Prop := j ≠ 0 ∧ j.natAbs.log2 < 9000
instance (i j : Int) : Decidable (DivOk i j) := by unfold DivOk; infer_instance
def ModOk (_ j : Int) : Prop := j ≠ 0
instance (i j : Int) : Decidable (ModOk i j) := by unfold ModOk; infer_instance
def PowOk (i j : Int) : Prop := 0 ≤ j ∧ j ≤ 1000000 ∧ i.natAbs < 2 ^ 64
instance (i j : Int) : Decidable (PowOk i j) := by unfold PowOk; infer_instance
def ShrOk (_ j : Int) : Prop := 0 ≤ j
instance (i j : Int) : Decidable (ShrOk i j) := by unfold ShrOk; infer_instance
def gSub := gI2 (fun _ _ => True) fun i j => .int (i - j)
def gMul := gI2 MulOk fun i j => .int (i * j)
def gDiv := gI2 DivOk fun i j => .int (i.fdiv j)
def gMod := gI2 ModOk fun i j => .int (i.fmod j)
def gPow := gI2 PowOk fun i j => .int (i ^ j.toNat)
def gShl := gI2 PowOk fun i j => .int (i * 2 ^ j.toNat)
def gShr := gI2 ShrOk fun i j => .int (i / 2 ^ j.toNat)
def gBand := gI2 (fun _ _ => True) fun i j => .int (Builtin.bitAnd i j)
theorem op_sub' : Op2 X (binaryOp .Sub) gSub := opI20 op_sub
theorem op_mul' : Op2 X (binaryOp .Mult) gMul := opI2 op_mulW fun _ _ h => h
theorem op_div' : Op2 X (binaryOp .FloorDiv) gDiv := opI2 (C' := DivOk) (opI fun _ _ _ _ _ _ _ hc q => floordiv_int hc.1 q (.inl (PyProof.noPylong_of_log2 hc.2))) fun _ _ h => h
theorem op_mod' : Op2 X (binaryOp .Mod) gMod := opI2 op_modN fun _ _ h => h
theorem op_pow' : Op2 X (binaryOp .Pow) gPow := opI2 op_pow fun _ _ h => h
theorem op_shl' : Op2 X (binaryOp .LShift) gShl := opI2 op_shl fun _ _ h => h
theorem op_shr' : Op2 X (binaryOp .RShift) gShr := opI2 op_shr fun _ _ h => h
theorem op_and' : Op2 X (binaryOp .BitAnd) gBand := opI20 op_and
def gLt := gI2 (fun _ _ => True) fun i j => .bl (decide (i < j))
def gLe := gI2 (fun _ _ => True) fun i j => .bl (decide (i ≤ j))
def gGt := gI2 (fun _ _ => True) fun i j => .bl (decide (j < i))
def gGe := gI2 (fun _ _ => True) fun i j => .bl (decide (j ≤ i))
theorem op_lt' : Op2 X (compareOp .Lt) gLt := opB20 op_lt
theorem op_le' : Op2 X (compareOp .LtE) gLe := opB20 op_le
theorem op_gt' : Op2 X (compareOp .Gt) gGt := opB20 op_gt
theorem op_ge' : Op2 X (compareOp .GtE) gGe := opB20 op_ge
def gNeg : List D → ER
  | [.int i] => .val (.int (-i))
  | _ => .stuck
theorem NoX.neg : NoX gNeg := fun ds c n h => by unfold gNeg at h; split at h <;> cases h
theorem un_neg' : Op1 X (unaryOp .USub) gNeg := UnRi un_neg fun x H Q q => by
  obtain ⟨P, as, d, r, fz, r1, ow, hg, k⟩ := rD1 q
  unfold gNeg at hg
  split at hg
  · rename_i i he
    cases he
    cases hg
    obtain ⟨rfl, rfl⟩ := r1.int_eq
    exact ⟨i, rfl, k _ H (.int _)⟩
  · cases hg

def gIsN : List D → ER
  | [.non, .non] => .val (.bl true)
  | [_, .non] => .val (.bl false)
  | _ => .stuck
def gNotN : List D → ER
  | [.non, .non] => .val (.bl false)
  | [_, .non] => .val (.bl true)
  | _ => .stuck
theorem NoX.isN : NoX gIsN := fun ds c n h => by unfold gIsN at h; split at h <;> cases h
theorem NoX.notN : NoX gNotN := fun ds c n h => by unfold gNotN at h; split at h <;> cases h
theorem Rep.non_iff {K : PySem.W.Frag} {w : World} {P : Addr → Prop} {H : Hp} {d : D} {v : V} {as : List Addr} (h : Rep K w P H d v as) : decide (v = .non) = (match d with | .non => true | _ => false) := by
  cases h <;> simp
theorem op_isN' : Op2 X (compareOp .Is) gIsN := OpRi op_isN fun x y H Q q => by
  obtain ⟨P, a1, a2, d, e, r, fz, r1, r2, ow, hg, k⟩ := rD2 q
  have hd := r1.non_iff
  cases e with
  | non =>
    cases r2
    refine ⟨rfl, ?_⟩
    rw [hd]
    cases d <;> (simp only [gIsN, ER.val.injEq] at hg; subst hg; exact k _ H (.bl _))
  | _ => cases d <;> simp [gIsN] at hg
theorem op_notN' : Op2 X (compareOp .IsNot) gNotN := OpRi op_notN fun x y H Q q => by
  obtain ⟨P, a1, a2, d, e, r, fz, r1, r2, ow, hg, k⟩ := rD2 q
  have hd := r1.non_iff
  cases e with
  | non =>
    cases r2
    refine ⟨rfl, ?_⟩
    rw [hd]
    cases d <;> (simp only [gNotN, ER.val.injEq] at hg; subst hg; exact k _ H (.bl _))
  | _ => cases d <;> simp [gNotN] at hg
end
end DL

set_option Elab.async false
set_option linter.all false
set_option maxRecDepth 100000
namespace DL
open PySem PySem.Spec L2
open PyProof.Rows hiding St

section
variable {K : PySem.W.Frag} {w : World} {P : Addr → Prop} {H : Hp}
theorem Rep.lst_h {o : Bool} {xs : List D} {v : V} {as : List Addr} (h : Rep K w P H (.lst o xs) v as) : ∃ a vs bs, v = .ref a ∧ H a = some (.lst vs) ∧ Reps K w P H xs vs bs ∧ bs.Sublist as := by
  cases h with
  | lstF a b => exact ⟨_, _, _, rfl, a.1, b, List.Sublist.refl _⟩
  | lstO a b => exact ⟨_, _, _, rfl, a, b, List.sublist_cons_self _ _⟩
end
section
variable {X : Cx}

def gAdd : List D → ER
  | [.int i, .int j] => .val (.int (i + j))
  | [.str x, .str y] => if x.length + y.length ≤ sizeLine then .val (.str (x ++ y)) else .stuck
  | [.lst _ xs, .lst _ ys] => if xs.length + ys.length ≤ sizeLine then .val (.lst true (xs ++ ys)) else .stuck
  | [.tup xs, .tup ys] => if xs.length + ys.length ≤ sizeLine then .val (.tup (xs ++ ys)) else .stuck
  | _ => .stuck
theorem NoX.add : NoX gAdd := fun ds c n h => by unfold gAdd at h; split at h <;> (first | cases h | (split at h <;> cases h))
theorem sub2 {a1 a2 b1 b2 : List Addr} (h1 : b1.Sublist a1) (h2 : b2.Sublist a2) : (b1 ++ b2).Sublist (a1 ++ a2) := List.Sublist.append h1 h2
theorem op_add' : Op2 X (binaryOp .Add) gAdd := by
  intro pins s σ H x y v u Q I rx ry h
  obtain ⟨P, a1, a2, d, e, r, fz, r1, r2, ow, hg, q⟩ := rD2 h
  unfold gAdd at hg
  split at hg
  · rename_i i j he
    injection he with e1 e2; injection e2 with e2 _; subst e1 e2
    cases hg
    obtain ⟨rfl, rfl⟩ := r1.int_eq
    obtain ⟨rfl, rfl⟩ := r2.int_eq
    exact op_add pins s σ H _ _ v u Q I rx ry ⟨i, j, rfl, rfl, q _ H (.int _)⟩
  · rename_i i j he
    injection he with e1 e2; injection e2 with e2 _; subst e1 e2
    split at hg
    · rename_i hz
      cases hg
      obtain ⟨rfl, rfl⟩ := r1.str_eq
      obtain ⟨rfl, rfl⟩ := r2.str_eq
      exact op_add_str pins s σ H _ _ v u Q I rx ry ⟨i, j, rfl, rfl, hz, q _ H (.str _)⟩
    · cases hg
  · rename_i o1 xs o2 ys he
    injection he with e1 e2; injection e2 with e2 _; subst e1 e2
    split at hg
    · rename_i hz
      cases hg
      obtain ⟨a, vs, b1, rfl, ha, ra, s1⟩ := r1.lst_h
      obtain ⟨b, us, b2, rfl, hb, rb, s2⟩ := r2.lst_h
      refine op_cat pins s σ H _ _ v u Q I rx ry ⟨a, b, vs, us, rfl, rfl, ha, hb, by rw [← ra.length, ← rb.length]; exact hz, fun p hp => q _ _ ?_⟩
      exact Out.weak (sub2 s1 s2) (Out.newL hp (fz.new hp) (ra.append rb) (ow.sub (sub2 s1 s2)))
    · cases hg
  · rename_i xs ys he
    injection he with e1 e2; injection e2 with e2 _; subst e1 e2
    split at hg
    · rename_i hz
      cases hg
      obtain ⟨a, vs, rfl, ha, ra⟩ := r1.tup_inv
      obtain ⟨b, us, rfl, hb, rb⟩ := r2.tup_inv
      refine op_catA pins s σ H _ _ v u Q I rx ry ⟨a, b, vs, us, rfl, rfl, .of ha, .of hb, by rw [← ra.length, ← rb.length]; exact hz, fun ez => ?_, fun ez ez2 => ?_, fun _ _ p hp => ?_⟩
      · have : xs = [] := by have := ra.length; rw [ez] at this; simpa using this
        subst this
        exact q _ H (Out.part ow (List.sublist_append_right _ _) (.tup hb rb))
      · have : ys = [] := by have := rb.length; rw [ez2] at this; simpa using this
        subst this
        rw [List.append_nil] at q
        exact q _ H (Out.part ow (List.sublist_append_left _ _) (.tup ha ra))
      · exact q _ _ (Out.newT hp (ra.append rb) ow)
    · cases hg
  · cases hg

def gRep : List D → ER
  | [.lst _ xs, .int k] => if -(2 ^ 63) ≤ k ∧ k < 2 ^ 63 ∧ xs.length * k.toNat ≤ sizeLine ∧ cleans xs = true then .val (.lst true ((List.replicate k.toNat (fzs xs)).flatten)) else .stuck
  | _ => .stuck
theorem NoX.rep : NoX gRep := fun ds c n h => by unfold gRep at h; split at h <;> (first | cases h | (split at h <;> cases h))
theorem Reps.rep {K : PySem.W.Frag} {w : World} {P : Addr → Prop} {H : Hp} {ds : List D} {vs : List V} (h : Reps K w P H ds vs []) : ∀ k : Nat, Reps K w P H (List.replicate k ds).flatten (List.replicate k vs).flatten []
  | 0 => .nil
  | k + 1 => by
    rw [List.replicate_succ, List.replicate_succ, List.flatten_cons, List.flatten_cons]
    exact h.append (b1 := []) (h.rep k)
theorem op_rep' : Op2 X (binaryOp .Mult) gRep := by
  intro pins s σ H x y v u Q I rx ry h
  obtain ⟨P, a1, a2, d, e, r, fz, r1, r2, ow, hg, q⟩ := rD2 h
  unfold gRep at hg
  split at hg
  · rename_i o xs k he
    injection he with e1 e2; injection e2 with e2 _; subst e1 e2
    split at hg
    · rename_i hc
      obtain ⟨h1, h2, h3, h4⟩ := hc
      cases hg
      obtain ⟨rfl, rfl⟩ := r2.int_eq
      obtain ⟨a, vs, b1, rfl, ha, ra, s1⟩ := r1.lst_h
      refine op_rep pins s σ H _ _ v u Q I rx ry ⟨a, k, vs, rfl, rfl, ha, h1, h2, by rw [← ra.length]; exact h3, fun p hp => q _ _ ?_⟩
      -- the items are frozen: each stands in the new list several times
      have rf : Reps X.K X.w (fun a => P a ∨ a ∈ b1) H (fzs xs) vs [] := ra.fz (fun _ z => .inl z) (fun _ z => .inr z)
      have np : ¬ (P p ∨ p ∈ b1) := fun z => z.elim (fz.new hp) fun z => by obtain ⟨o, ho⟩ := (ra.there p z).some; rw [hp] at ho; cases ho
      refine ⟨fun a => P a ∨ a ∈ b1, [p], ⟨same_new hp, fun _ z => .inl z, fun a z => z.elim .inl fun z => .inr (.inl (List.mem_append_left _ (s1.subset z)))⟩, .lstO upd_same ((rf.rep k.toNat).mono (same_new hp) fun _ z => z), ⟨by simp, fun a z => ?_⟩, fun a z => ?_⟩
      · rw [List.mem_singleton.mp z]; exact np
      · rw [List.mem_singleton.mp z]; exact .inr hp
    · cases hg
  · cases hg

def gIx : List D → ER
  | [.lst _ xs, .int i] => match atI xs i with | some d => .val d | none => .stuck
  | [.tup xs, .int i] => match atI xs i with | some d => .val d | none => .stuck
  | [.scr xs, .int i] => match atI xs i with | some d => .val (.int d) | none => .stuck
  | _ => .stuck
theorem NoX.ix : NoX gIx := fun ds c n h => by unfold gIx at h; split at h <;> (first | cases h | (split at h <;> cases h))
theorem atI_map {α β : Type} (f : α → β) (xs : List α) (i : Int) : atI (xs.map f) i = (atI xs i).map f := by
  unfold atI
  rw [List.length_map]
  cases ixN xs.length i with
  | none => rfl
  | some j => simp
theorem atI_reps {K : PySem.W.Frag} {w : World} {P : Addr → Prop} {H : Hp} {ds : List D} {vs : List V} {as : List Addr} (h : Reps K w P H ds vs as) {i : Int} {d : D} (e : atI ds i = some d) : ∃ v bs, atI vs i = some v ∧ Rep K w P H d v bs ∧ bs.Sublist as := by
  unfold atI at e ⊢
  rw [← h.length]
  cases hj : ixN ds.length i with
  | none => rw [hj] at e; simp at e
  | some j =>
    rw [hj] at e
    exact h.get e
theorem ix_rD {x y : V} {H : Hp} {Q : VK} (h : rD X.K X.w gIx [x, y] H Q) : rIx X.K x y H Q := by
  obtain ⟨P, a1, a2, d, e, r, fz, r1, r2, ow, hg, q⟩ := rD2 h
  unfold gIx at hg
  split at hg
  · rename_i o xs i he
    injection he with e1 e2; injection e2 with e2 _; subst e1 e2
    obtain ⟨rfl, rfl⟩ := r2.int_eq
    obtain ⟨a, vs, b1, rfl, ha, ra, s1⟩ := r1.lst_h
    split at hg
    · rename_i d hd
      cases hg
      obtain ⟨v, bs, hv, rv, s2⟩ := atI_reps ra hd
      exact .inl ⟨a, vs, i, v, rfl, rfl, .of ha, hv, q v H (Out.part ow ((s2.trans s1).trans (List.sublist_append_left _ _)) rv)⟩
    · cases hg
  · rename_i xs i he
    injection he with e1 e2; injection e2 with e2 _; subst e1 e2
    obtain ⟨rfl, rfl⟩ := r2.int_eq
    obtain ⟨a, vs, rfl, ha, ra⟩ := r1.tup_inv
    split at hg
    · rename_i d hd
      cases hg
      obtain ⟨v, bs, hv, rv, s2⟩ := atI_reps ra hd
      exact .inr (.inl ⟨a, vs, i, v, rfl, rfl, .of ha, hv, q v H (Out.part ow (s2.trans (List.sublist_append_left _ _)) rv)⟩)
    · cases hg
  · rename_i xs i he
    injection he with e1 e2; injection e2 with e2 _; subst e1 e2
    obtain ⟨rfl, rfl⟩ := r2.int_eq
    cases r1 with
    | scr hs =>
      split at hg
      · rename_i d hd
        cases hg
        exact .inl ⟨_, _, i, .int d, rfl, rfl, hs.sql, by rw [atI_map, hd]; rfl, q _ H (.int d)⟩
      · cases hg
  · cases hg
theorem de_ix {W : WX} {a b : Expr} {pos : Pos} {r1 r2 : List Nat} {f1 f2 : Ev} (ha : DE X W a r1 f1) (hb : DE X W b r2 f2) (hs : PlainIx b) : DE X W (.Subscript a b pos) (r1 ++ (r2 ++ [])) (eA gIx (lC f1 (lC f2 lN))) :=
  PEi (pe_ix ix_seq ha hb hs) fun σ H Q h => by
    have := seqD NoX.ix h
    obtain ⟨ρ, P, vw, k⟩ := this
    refine ⟨ρ, P, vw, ?_⟩
    split at k
    · intro v H1 o
      obtain ⟨ρ2, P2, vw2, k2⟩ := k v H1 o
      refine ⟨ρ2, P2, vw2, ?_⟩
      split at k2
      · exact fun v2 H2 o2 => ix_rD (k2 v2 H2 o2)
      · exact k2
      · exact k2
    · exact k
    · exact k

def cutD (xs : List D) (lo hi : Option Int) : List D := (xs.drop (HT.sIx xs.length 0 lo)).take (HT.sIx xs.length xs.length hi - HT.sIx xs.length 0 lo)
theorem Reps.cut {K : PySem.W.Frag} {w : World} {P : Addr → Prop} {H : Hp} {ds : List D} {vs : List V} {as : List Addr} (h : Reps K w P H ds vs as) (lo hi : Option Int) : ∃ bs, Reps K w P H (cutD ds lo hi) (cutV vs lo hi) bs ∧ bs.Sublist as := by
  unfold cutD cutV
  rw [← h.length]
  obtain ⟨b1, r1, s1⟩ := h.drop (HT.sIx ds.length 0 lo)
  obtain ⟨b2, r2, s2⟩ := r1.take (HT.sIx ds.length ds.length hi - HT.sIx ds.length 0 lo)
  exact ⟨b2, r2, s2.trans s1⟩
/-- a slice's bound: left out, or an int -/
def sPart : D → Option (Option Int)
  | .non => some none
  | .int i => some (some i)
  | _ => none
def gSl : List D → ER
  | [.lst _ xs, l, h] => match sPart l, sPart h with | some lo, some hi => .val (.lst true (cutD xs lo hi)) | _, _ => .stuck
  | [.tup xs, l, h] => match sPart l, sPart h with | some lo, some hi => .val (.tup (cutD xs lo hi)) | _, _ => .stuck
  | _ => .stuck
theorem NoX.sl : NoX gSl := fun ds c n h => by unfold gSl at h; split at h <;> (first | cases h | (split at h <;> cases h))
def eNo : Ev := fun _ => .val .non
/-- the bound is an int: what is not is stuck -/
def eInt (f : Ev) : Ev := fun ρ => match f ρ with
  | .val (.int i) => .val (.int i)
  | .exc c n => .exc c n
  | _ => .stuck
def tPt (L : Lt) (rd : List Nat) (f : Ev) : TO := fun σ H Q => ∃ ρ P, View L.K L.w P H rd ρ σ ∧ match f ρ with
  | .val .non => ∀ H', Same H H' → Q none H'
  | .val (.int i) => ∀ H', Same H H' → Q (some i) H'
  | .exc c n => Fly L c n σ H
  | _ => False
/-- a bound of a slice -/
structure DP (X : Cx) (W : WX) (e : Option Expr) (rd : List Nat) (f : Ev) : Prop where
  po : PO X e (tPt (lt X W) rd f)
  isp : ∀ ρ d, f ρ = .val d → d = .non ∨ ∃ i, d = .int i
theorem POi {X : Cx} {e : Option Expr} {t t' : TO} (h : PO X e t) (i : ∀ σ H Q, t' σ H Q → t σ H Q) : PO X e t' := ⟨fun pins s σ H Q I q => h.run pins s σ H Q I (i σ H Q q)⟩
theorem dp_no {W : WX} : DP X W none [] eNo := ⟨POi po_none fun σ H Q ⟨ρ, P, vw, q⟩ => q H (.refl _), fun ρ d h => by cases h; exact .inl rfl⟩
theorem dp_i {W : WX} {e : Expr} {rd : List Nat} {f : Ev} (h : DE X W e rd f) : DP X W (some e) rd (eInt f) := ⟨POi (po_some h) fun σ H Q ⟨ρ, P, vw, q⟩ => by
  refine ⟨ρ, P, vw, ?_⟩
  unfold eInt at q
  cases hf : f ρ with
  | val d =>
    rw [hf] at q
    cases d with
    | int i =>
      intro v H1 o
      have e1 := o.same
      obtain ⟨_, _, _, rr, _⟩ := o
      cases rr
      exact ⟨i, rfl, q H1 e1⟩
    | _ => exact q.elim
  | exc c n => rw [hf] at q; exact q
  | stuck => rw [hf] at q; exact q, fun ρ d hd => by
  unfold eInt at hd
  split at hd <;> cases hd
  exact .inr ⟨_, rfl⟩⟩
def rSlD (K : PySem.W.Frag) (w : World) : V → Option Int → Option Int → Hp → VK → Prop := fun x lo hi H Q => ∃ P as d r, Fz P H ∧ Rep K w P H d x as ∧ Own P as ∧ gSl [d, (match lo with | none => .non | some i => .int i), (match hi with | none => .non | some i => .int i)] = .val r ∧ ∀ v H', Out K w P as H H' r v → Q v H'
theorem sPart_of (lo : Option Int) : sPart (match lo with | none => .non | some i => .int i) = some lo := by cases lo <;> rfl
theorem sl_D : SlR X (rSlD X.K X.w) := by
  intro pins s σ H x v vl vu lo hi sl Q I rx hs pl pu h
  obtain ⟨P, as, d, r, fz, r1, ow, hg, q⟩ := h
  unfold gSl at hg
  split at hg
  · rename_i o xs l hh he
    injection he with e1 e2; injection e2 with e2 e3; injection e3 with e3 _; subst e1 e2 e3
    rw [sPart_of, sPart_of] at hg
    cases hg
    obtain ⟨a, vs, b1, rfl, ha, ra, s1⟩ := r1.lst_h
    obtain ⟨b2, rc, s2⟩ := ra.cut lo hi
    exact sl_list pins s σ H _ v vl vu lo hi sl Q I rx hs pl pu ⟨a, vs, rfl, .of ha, fun p hp => q _ _ (Out.weak (s2.trans s1) (Out.newL hp (fz.new hp) rc (ow.sub (s2.trans s1))))⟩
  · rename_i xs l hh he
    injection he with e1 e2; injection e2 with e2 e3; injection e3 with e3 _; subst e1 e2 e3
    rw [sPart_of, sPart_of] at hg
    cases hg
    obtain ⟨a, vs, rfl, ha, ra⟩ := r1.tup_inv
    obtain ⟨b2, rc, s2⟩ := ra.cut lo hi
    refine sl_tupA pins s σ H _ v vl vu lo hi sl Q I rx hs pl pu ⟨a, vs, rfl, .of ha, fun hw => ?_, fun _ p hp => q _ _ (Out.weak s2 (Out.newT hp rc (ow.sub s2)))⟩
    have : cutD xs lo hi = xs := by
      unfold cutD
      rw [ra.length, hw.1, hw.2]
      rw [List.drop_zero, Nat.sub_zero, ← ra.length, List.take_length]
    rw [this] at q
    exact q _ H (Out.part ow (List.Sublist.refl _) (.tup ha ra))
  · cases hg
theorem de_sl {W : WX} {a : Expr} {lo hi : Option Expr} {pos p2 : Pos} {r1 r2 r3 : List Nat} {f1 f2 f3 : Ev} (ha : DE X W a r1 f1) (hl : DP X W lo r2 f2) (hh : DP X W hi r3 f3) :
    DE X W (.Subscript a (.Slice lo hi none p2) pos) (r1 ++ (r2 ++ r3)) (eA gSl (lC f1 (lC f2 (lC f3 lN)))) :=
  PEi (pe_slice sl_D ha hl.po hh.po) fun σ H Q ⟨ρ, P, vw, q⟩ => by
    refine ⟨ρ, P, vw.left, ?_⟩
    unfold eA lC lN at q
    cases h1 : f1 ρ with
    | val d1 =>
      simp only [h1] at q
      intro v H1 o1
      refine ⟨ρ, P, (vw.right.left).same o1.same, ?_⟩
      have go : ∀ d2 lo, f2 ρ = .val d2 → (match lo with | none => D.non | some i => .int i) = d2 → ∀ H2, Same H1 H2 → tPt (lt X W) r3 f3 σ H2 fun hi H3 => rSlD X.K X.w v lo hi H3 Q := fun d2 lo h2 e2 H2 s2 => by
        refine ⟨ρ, P, (vw.right.right).same (o1.same.trans s2), ?_⟩
        simp only [h2] at q
        have go2 : ∀ d3 hi, f3 ρ = .val d3 → (match hi with | none => D.non | some i => .int i) = d3 → ∀ H3, Same H2 H3 → rSlD X.K X.w v lo hi H3 Q := fun d3 hi h3 e3 H3 s3 => by
          simp only [h3] at q
          cases hg : gSl [d1, d2, d3] with
          | val r =>
            simp only [hg] at q
            obtain ⟨P1, a1, g1, rr1, w1, n1⟩ := o1
            have s13 := s2.trans s3
            have th : ∀ a ∈ a1, ∃ o, H1 a = some o := fun a z => (rr1.there a z).some
            have g3 : Grow P P1 [] H H3 := ⟨g1.same.trans s13, g1.le, fun a z => (g1.new a z).elim .inl fun z => z.elim (fun z => nomatch z) fun ⟨z, o, y⟩ => .inr (.inr ⟨z, o, s13 _ _ y⟩)⟩
            exact ⟨P1, a1, d1, r, g3.fz vw.fz (fun _ z => nomatch z), rr1.mono s13 (fun _ z => z), w1, by rw [e2, e3]; exact hg, fun v' H' o => q v' H' (OutL.comb g3 (fun x hx => (n1 x hx).elim (fun z => nomatch z) id) (fun x hx => by obtain ⟨o, ho⟩ := th x hx; exact ⟨o, s13 _ _ ho⟩) o)⟩
          | exc c n => exact absurd hg (NoX.sl _ _ _)
          | stuck => simp only [hg] at q
        cases h3 : f3 ρ with
        | val d3 =>
          rcases hh.isp ρ d3 h3 with rfl | ⟨i, rfl⟩
          · exact fun H3 s3 => go2 _ none h3 rfl H3 s3
          · exact fun H3 s3 => go2 _ (some i) h3 rfl H3 s3
        | exc c n => simp only [h3] at q; exact q.same (o1.same.trans s2)
        | stuck => simp only [h3] at q
      cases h2 : f2 ρ with
      | val d2 =>
        rcases hl.isp ρ d2 h2 with rfl | ⟨i, rfl⟩
        · exact fun H2 s2 => go _ none h2 rfl H2 s2
        · exact fun H2 s2 => go _ (some i) h2 rfl H2 s2
      | exc c n => simp only [h2] at q; exact q.same o1.same
      | stuck => simp only [h2] at q
    | exc c n => simp only [h1] at q; exact q
    | stuck => simp only [h1] at q
end
end DL

set_option Elab.async false
set_option linter.all false
set_option maxRecDepth 100000
namespace DL
open PySem PySem.Spec L2
open PyProof.Rows hiding St

section
variable {X : Cx}
def gLen : List D → ER
  | [.lst _ xs] => .val (.int xs.length)
  | [.tup xs] => .val (.int xs.length)
  | [.scr xs] => .val (.int xs.length)
  | [.str x] => if x.length ≤ sizeLine then .val (.int x.length) else .stuck
  | _ => .stuck
theorem NoX.len : NoX gLen := fun ds c n h => by unfold gLen at h; split at h <;> (first | cases h | (split at h <;> cases h))
/-- what rD says of a list of values, in parts -/
theorem rDn {K : PySem.W.Frag} {w : World} {g : List D → ER} {vs : List V} {H : Hp} {Q : VK} (h : rD K w g vs H Q) : ∃ P as ds r, Fz P H ∧ Reps K w P H ds vs as ∧ Own P as ∧ g ds = .val r ∧ ∀ v H', Out K w P as H H' r v → Q v H' := h
theorem Reps.sing {K : PySem.W.Frag} {w : World} {P : Addr → Prop} {H : Hp} {d : D} {vs : List V} {as : List Addr} (h : Reps K w P H [d] vs as) : ∃ v, vs = [v] ∧ Rep K w P H d v as := by
  obtain ⟨v, us, a1, a2, rfl, rfl, r1, r2⟩ := h.cons_inv
  cases r2
  exact ⟨v, rfl, by rw [List.append_nil]; exact r1⟩
theorem Reps.pair {K : PySem.W.Frag} {w : World} {P : Addr → Prop} {H : Hp} {d e : D} {vs : List V} {as : List Addr} (h : Reps K w P H [d, e] vs as) : ∃ v u a1 a2, vs = [v, u] ∧ as = a1 ++ a2 ∧ Rep K w P H d v a1 ∧ Rep K w P H e u a2 := by
  obtain ⟨v, us, a1, a2, rfl, rfl, r1, r2⟩ := h.cons_inv
  obtain ⟨u, rfl, r3⟩ := r2.sing
  exact ⟨v, u, a1, a2, rfl, rfl, r1, r3⟩
theorem call_len' : CallD X (.builtin "len") gLen := CallRi call_len fun vs H Q h => by
  obtain ⟨P, as, ds, r, fz, rr, ow, hg, q⟩ := h
  unfold gLen at hg
  split at hg
  · obtain ⟨v, rfl, r1⟩ := rr.sing
    cases hg
    obtain ⟨a, us, bs, rfl, ha, ra, _⟩ := r1.lst_h
    exact ⟨_, _, rfl, .inl ⟨us, .of ha, ra.length⟩, q _ H (.int _)⟩
  · obtain ⟨v, rfl, r1⟩ := rr.sing
    cases hg
    obtain ⟨a, us, rfl, ha, ra⟩ := r1.tup_inv
    exact ⟨_, _, rfl, .inr ⟨us, .of ha, ra.length⟩, q _ H (.int _)⟩
  · obtain ⟨v, rfl, r1⟩ := rr.sing
    cases hg
    cases r1 with
    | scr hs => exact ⟨_, _, rfl, .inl ⟨_, hs.sql, by simp⟩, q _ H (.int _)⟩
  · obtain ⟨v, rfl, r1⟩ := rr.sing
    split at hg
    · rename_i hz
      cases hg
      obtain ⟨rfl, _⟩ := r1.str_eq
      exact ⟨_, _, rfl, ⟨hz, rfl⟩, q _ H (.int _)⟩
    · cases hg
  · cases hg
/-- list(x): a new list -/
def gList : List D → ER
  | [.lst _ xs] => .val (.lst true xs)
  | [.tup xs] => .val (.lst true xs)
  | _ => .stuck
theorem NoX.list : NoX gList := fun ds c n h => by unfold gList at h; split at h <;> cases h
theorem call_list' : CallD X (.type "list") gList := CallRi call_list_of fun vs H Q h => by
  obtain ⟨P, as, ds, r, fz, rr, ow, hg, q⟩ := h
  unfold gList at hg
  split at hg
  · obtain ⟨v, rfl, r1⟩ := rr.sing
    cases hg
    obtain ⟨a, us, bs, rfl, ha, ra, s⟩ := r1.lst_h
    exact ⟨a, us, rfl, .inl (.of ha), fun p hp => q _ _ (Out.weak s (Out.newL hp (fz.new hp) ra (ow.sub s)))⟩
  · obtain ⟨v, rfl, r1⟩ := rr.sing
    cases hg
    obtain ⟨a, us, rfl, ha, ra⟩ := r1.tup_inv
    exact ⟨a, us, rfl, .inr (.of ha), fun p hp => q _ _ (Out.newL hp (fz.new hp) ra ow)⟩
  · cases hg
def gTuple : List D → ER
  | [.lst _ xs] => .val (.tup xs)
  | [.tup xs] => .val (.tup xs)
  | _ => .stuck
theorem NoX.tuple : NoX gTuple := fun ds c n h => by unfold gTuple at h; split at h <;> cases h
theorem call_tuple' : CallD X (.type "tuple") gTuple := CallRi call_tuple_of fun vs H Q h => by
  obtain ⟨P, as, ds, r, fz, rr, ow, hg, q⟩ := h
  unfold gTuple at hg
  split at hg
  · obtain ⟨v, rfl, r1⟩ := rr.sing
    cases hg
    obtain ⟨a, us, bs, rfl, ha, ra, s⟩ := r1.lst_h
    exact ⟨a, us, rfl, .inl ⟨.of ha, fun p hp => q _ _ (Out.weak s (Out.newT hp ra (ow.sub s)))⟩⟩
  · obtain ⟨v, rfl, r1⟩ := rr.sing
    cases hg
    obtain ⟨a, us, rfl, ha, ra⟩ := r1.tup_inv
    exact ⟨a, us, rfl, .inr ⟨.of ha, q _ H (Out.part ow (List.Sublist.refl _) (.tup ha ra))⟩⟩
  · cases hg
def gInt : List D → ER
  | [.int i] => .val (.int i)
  | [.bl b] => .val (.int (if b then 1 else 0))
  | _ => .stuck
theorem NoX.int : NoX gInt := fun ds c n h => by unfold gInt at h; split at h <;> cases h
theorem call_int' : CallD X (.type "int") gInt := CallRi call_int1 fun vs H Q h => by
  obtain ⟨P, as, ds, r, fz, rr, ow, hg, q⟩ := h
  unfold gInt at hg
  split at hg
  · obtain ⟨v, rfl, r1⟩ := rr.sing
    cases hg
    obtain ⟨rfl, _⟩ := r1.int_eq
    exact .inl ⟨_, rfl, q _ H (.int _)⟩
  · obtain ⟨v, rfl, r1⟩ := rr.sing
    cases hg
    obtain ⟨rfl, _⟩ := r1.bl_eq
    exact .inr ⟨_, rfl, q _ H (.int _)⟩
  · cases hg
def gAbs : List D → ER
  | [.int i] => .val (.int (if i < 0 then -i else i))
  | _ => .stuck
theorem NoX.abs : NoX gAbs := fun ds c n h => by unfold gAbs at h; split at h <;> cases h
theorem call_abs' : CallD X (.builtin "abs") gAbs := CallRi call_abs fun vs H Q h => by
  obtain ⟨P, as, ds, r, fz, rr, ow, hg, q⟩ := h
  unfold gAbs at hg
  split at hg
  · obtain ⟨v, rfl, r1⟩ := rr.sing
    cases hg
    obtain ⟨rfl, _⟩ := r1.int_eq
    exact ⟨_, rfl, q _ H (.int _)⟩
  · cases hg
/-- the greatest, the least -/
def maxI : List Int → Int
  | [] => 0
  | [i] => i
  | i :: r => if i < maxI r then maxI r else i
def minI : List Int → Int
  | [] => 0
  | [i] => i
  | i :: r => if minI r < i then minI r else i
theorem maxI_spec : ∀ (l : List Int), l ≠ [] → maxI l ∈ l ∧ ∀ y ∈ l, y ≤ maxI l
  | [], h => absurd rfl h
  | [i], _ => ⟨by simp [maxI], by simp [maxI]⟩
  | i :: j :: r, _ => by
    obtain ⟨a, b⟩ := maxI_spec (j :: r) (by simp)
    unfold maxI
    split
    · rename_i hlt
      exact ⟨List.mem_cons_of_mem _ a, fun y hy => (List.mem_cons.mp hy).elim (fun e => by rw [e]; exact Int.le_of_lt hlt) (b y)⟩
    · rename_i hlt
      exact ⟨List.mem_cons_self, fun y hy => (List.mem_cons.mp hy).elim (fun e => by rw [e]; exact Int.le_refl _) fun z => by have := b y z; omega⟩
theorem minI_spec : ∀ (l : List Int), l ≠ [] → minI l ∈ l ∧ ∀ y ∈ l, minI l ≤ y
  | [], h => absurd rfl h
  | [i], _ => ⟨by simp [minI], by simp [minI]⟩
  | i :: j :: r, _ => by
    obtain ⟨a, b⟩ := minI_spec (j :: r) (by simp)
    unfold minI
    split
    · rename_i hlt
      exact ⟨List.mem_cons_of_mem _ a, fun y hy => (List.mem_cons.mp hy).elim (fun e => by rw [e]; exact Int.le_of_lt hlt) (b y)⟩
    · rename_i hlt
      exact ⟨List.mem_cons_self, fun y hy => (List.mem_cons.mp hy).elim (fun e => by rw [e]; exact Int.le_refl _) fun z => by have := b y z; omega⟩
def intsOf : List D → Option (List Int)
  | [] => some []
  | .int i :: r => (intsOf r).map (i :: ·)
  | _ => none
def blsOf : List D → Option (List Bool)
  | [] => some []
  | .bl i :: r => (blsOf r).map (i :: ·)
  | _ => none
theorem intsOf_reps {K : PySem.W.Frag} {w : World} {P : Addr → Prop} {H : Hp} : ∀ {ds : List D} {vs : List V} {as : List Addr} {ns : List Int}, Reps K w P H ds vs as → intsOf ds = some ns → vs = ns.map V.int ∧ as = []
  | _, _, _, ns, .nil, h => by simp [intsOf] at h; subst h; exact ⟨rfl, rfl⟩
  | d :: ds, _, _, ns, .cons a b, h => by
    cases a with
    | int i =>
      simp only [intsOf] at h
      cases e : intsOf ds with
      | none => rw [e] at h; cases h
      | some l =>
        rw [e] at h
        cases h
        obtain ⟨rfl, rfl⟩ := intsOf_reps b e
        exact ⟨rfl, rfl⟩
    | _ => simp [intsOf] at h
theorem blsOf_reps {K : PySem.W.Frag} {w : World} {P : Addr → Prop} {H : Hp} : ∀ {ds : List D} {vs : List V} {as : List Addr} {ns : List Bool}, Reps K w P H ds vs as → blsOf ds = some ns → vs = ns.map V.bl ∧ as = []
  | _, _, _, ns, .nil, h => by simp [blsOf] at h; subst h; exact ⟨rfl, rfl⟩
  | d :: ds, _, _, ns, .cons a b, h => by
    cases a with
    | bl i =>
      simp only [blsOf] at h
      cases e : blsOf ds with
      | none => rw [e] at h; cases h
      | some l =>
        rw [e] at h
        cases h
        obtain ⟨rfl, rfl⟩ := blsOf_reps b e
        exact ⟨rfl, rfl⟩
    | _ => simp [blsOf] at h
/-- max of two ints, or of a list of ints (not empty) -/
def gMax : List D → ER
  | [.int i, .int j] => .val (.int (if j > i then j else i))
  | [.lst _ xs] => match intsOf xs with
    | some (i :: r) => .val (.int (maxI (i :: r)))
    | _ => .stuck
  | _ => .stuck
def gMin : List D → ER
  | [.int i, .int j] => .val (.int (if j < i then j else i))
  | [.lst _ xs] => match intsOf xs with
    | some (i :: r) => .val (.int (minI (i :: r)))
    | _ => .stuck
  | _ => .stuck
theorem NoX.max : NoX gMax := fun ds c n h => by unfold gMax at h; split at h <;> (first | cases h | (split at h <;> cases h))
theorem NoX.min : NoX gMin := fun ds c n h => by unfold gMin at h; split at h <;> (first | cases h | (split at h <;> cases h))
theorem call_max' (hc : X.calm = true) : CallD X (.builtin "max") gMax := CallRi ((call_max2 hc).or (cr_max hc)) fun vs H Q h => by
  obtain ⟨P, as, ds, r, fz, rr, ow, hg, q⟩ := h
  unfold gMax at hg
  split at hg
  · obtain ⟨v, u, a1, a2, rfl, rfl, r1, r2⟩ := rr.pair
    cases hg
    obtain ⟨rfl, _⟩ := r1.int_eq
    obtain ⟨rfl, _⟩ := r2.int_eq
    exact .inl ⟨_, _, rfl, q _ H (.int _)⟩
  · obtain ⟨v, rfl, r1⟩ := rr.sing
    split at hg
    · rename_i i l hi
      cases hg
      obtain ⟨a, us, bs, rfl, ha, ra, s⟩ := r1.lst_h
      obtain ⟨rfl, rfl⟩ := intsOf_reps ra hi
      obtain ⟨m1, m2⟩ := maxI_spec (i :: l) (by simp)
      refine .inr ⟨a, i :: l, rfl, .of ha, by simp, fun m h1 h2 => ?_⟩
      have : m = maxI (i :: l) := Int.le_antisymm (m2 m h1) (h2 _ m1)
      rw [this]
      exact q _ H (.int _)
    · cases hg
  · cases hg
theorem call_min' (hc : X.calm = true) : CallD X (.builtin "min") gMin := CallRi ((call_min2 hc).or (cr_min hc)) fun vs H Q h => by
  obtain ⟨P, as, ds, r, fz, rr, ow, hg, q⟩ := h
  unfold gMin at hg
  split at hg
  · obtain ⟨v, u, a1, a2, rfl, rfl, r1, r2⟩ := rr.pair
    cases hg
    obtain ⟨rfl, _⟩ := r1.int_eq
    obtain ⟨rfl, _⟩ := r2.int_eq
    exact .inl ⟨_, _, rfl, q _ H (.int _)⟩
  · obtain ⟨v, rfl, r1⟩ := rr.sing
    split at hg
    · rename_i i l hi
      cases hg
      obtain ⟨a, us, bs, rfl, ha, ra, s⟩ := r1.lst_h
      obtain ⟨rfl, rfl⟩ := intsOf_reps ra hi
      obtain ⟨m1, m2⟩ := minI_spec (i :: l) (by simp)
      refine .inr ⟨a, i :: l, rfl, .of ha, by simp, fun m h1 h2 => ?_⟩
      have : m = minI (i :: l) := Int.le_antisymm (h2 _ m1) (m2 m h1)
      rw [this]
      exact q _ H (.int _)
    · cases hg
  · cases hg
def gSum : List D → ER
  | [.lst _ xs] => match intsOf xs with
    | some ns => .val (.int ns.sum)
    | none => .stuck
  | _ => .stuck
def gAny : List D → ER
  | [.lst _ xs] => match blsOf xs with
    | some ns => .val (.bl (ns.any id))
    | none => .stuck
  | _ => .stuck
def gAll : List D → ER
  | [.lst _ xs] => match blsOf xs with
    | some ns => .val (.bl (ns.all id))
    | none => .stuck
  | _ => .stuck
theorem NoX.sum : NoX gSum := fun ds c n h => by unfold gSum at h; split at h <;> (first | cases h | (split at h <;> cases h))
theorem NoX.any : NoX gAny := fun ds c n h => by unfold gAny at h; split at h <;> (first | cases h | (split at h <;> cases h))
theorem NoX.all : NoX gAll := fun ds c n h => by unfold gAll at h; split at h <;> (first | cases h | (split at h <;> cases h))
theorem call_sum' (hc : X.calm = true) : CallD X (.builtin "sum") gSum := CallRi (cr_sum hc) fun vs H Q h => by
  obtain ⟨P, as, ds, r, fz, rr, ow, hg, q⟩ := h
  unfold gSum at hg
  split at hg
  · obtain ⟨v, rfl, r1⟩ := rr.sing
    split at hg
    · rename_i ns hi
      cases hg
      obtain ⟨a, us, bs, rfl, ha, ra, s⟩ := r1.lst_h
      obtain ⟨rfl, rfl⟩ := intsOf_reps ra hi
      exact ⟨a, ns, rfl, .of ha, q _ H (.int _)⟩
    · cases hg
  · cases hg
theorem call_any' (hc : X.calm = true) : CallD X (.builtin "any") gAny := CallRi (cr_any hc) fun vs H Q h => by
  obtain ⟨P, as, ds, r, fz, rr, ow, hg, q⟩ := h
  unfold gAny at hg
  split at hg
  · obtain ⟨v, rfl, r1⟩ := rr.sing
    split at hg
    · rename_i ns hi
      cases hg
      obtain ⟨a, us, bs, rfl, ha, ra, s⟩ := r1.lst_h
      obtain ⟨rfl, rfl⟩ := blsOf_reps ra hi
      exact ⟨a, ns, rfl, .of ha, q _ H (.bl _)⟩
    · cases hg
  · cases hg
theorem call_all' (hc : X.calm = true) : CallD X (.builtin "all") gAll := CallRi (cr_all hc) fun vs H Q h => by
  obtain ⟨P, as, ds, r, fz, rr, ow, hg, q⟩ := h
  unfold gAll at hg
  split at hg
  · obtain ⟨v, rfl, r1⟩ := rr.sing
    split at hg
    · rename_i ns hi
      cases hg
      obtain ⟨a, us, bs, rfl, ha, ra, s⟩ := r1.lst_h
      obtain ⟨rfl, rfl⟩ := blsOf_reps ra hi
      exact ⟨a, ns, rfl, .of ha, q _ H (.bl _)⟩
    · cases hg
  · cases hg
def gGcd : List D → ER
  | [.int i, .int j] => .val (.int ((Nat.gcd i.natAbs j.natAbs : Nat) : Int))
  | _ => .stuck
theorem NoX.gcd : NoX gGcd := fun ds c n h => by unfold gGcd at h; split at h <;> cases h
theorem call_gcd' : CallD X (.builtin "math.gcd") gGcd := CallRi cr_gcd fun vs H Q h => by
  obtain ⟨P, as, ds, r, fz, rr, ow, hg, q⟩ := h
  unfold gGcd at hg
  split at hg
  · obtain ⟨v, u, a1, a2, rfl, rfl, r1, r2⟩ := rr.pair
    cases hg
    obtain ⟨rfl, _⟩ := r1.int_eq
    obtain ⟨rfl, _⟩ := r2.int_eq
    exact ⟨_, _, rfl, q _ H (.int _)⟩
  · cases hg
/-- f(e, ..), f a module's name for a built-in function -/
theorem de_callM {W : WX} {e : Expr} {es : List Expr} {pos : Pos} {rd : List Nat} {l : Lv} {x : Str} {p : Pos} {id : String} {g : List D → ER} (hc : CallD X (.builtin id) g) (ng : NoX g) (hg : Gl X x) (hm : X.mg x = some (.builtin id)) (ha : DA X W (e :: es) rd l) (hdb : (x == ("__debug__" : Str)) = false := by decide)
    (he : starEach (e :: es) X.env = (false, eval e X.env) :: starEach es X.env := by rfl) (hpl : (backTo pos (starEach es X.env)).any (·.1) = false := by rfl) : DE X W (.Call (.Name x p) (e :: es) [] pos) rd (eA g l) :=
  PEi (pe_callBfun hc hg hm ha hdb he hpl) fun σ H Q q => tA_of ng q

mutual
def toPy : D → Option PyData
  | .non => some .none
  | .bl b => some (.bool b)
  | .int i => some (.int i)
  | .str x => some (.str x)
  | .tup xs => (toPys xs).map .tuple
  | .lst _ xs => (toPys xs).map .list
  | _ => none
def toPys : List D → Option (List PyData)
  | [] => some []
  | d :: r => match toPy d, toPys r with
    | some p, some ps => some (p :: ps)
    | _, _ => none
end
mutual
theorem Rep.dp {K : PySem.W.Frag} {w : World} {P : Addr → Prop} {H : Hp} : ∀ {d : D} {v : V} {as : List Addr} {p : PyData}, Rep K w P H d v as → toPy d = some p → Dp K H v p
  | _, _, _, p, .non, h => by simp only [toPy, Option.some.injEq] at h; subst h; exact .non
  | _, _, _, p, .bl b, h => by simp only [toPy, Option.some.injEq] at h; subst h; exact .bl b
  | _, _, _, p, .int i, h => by simp only [toPy, Option.some.injEq] at h; subst h; exact .int i
  | _, _, _, p, .str x, h => by simp only [toPy, Option.some.injEq] at h; subst h; exact .str x
  | _, _, _, p, .tup (ds := ds) a b, h => by
    simp only [toPy] at h
    cases e : toPys ds with
    | none => rw [e] at h; cases h
    | some ps => rw [e] at h; cases h; exact .tup (.of a) (Reps.dp b e)
  | _, _, _, p, .lstF (ds := ds) a b, h => by
    simp only [toPy] at h
    cases e : toPys ds with
    | none => rw [e] at h; cases h
    | some ps => rw [e] at h; cases h; exact .lst (.of a.1) (Reps.dp b e)
  | _, _, _, p, .lstO (ds := ds) a b, h => by
    simp only [toPy] at h
    cases e : toPys ds with
    | none => rw [e] at h; cases h
    | some ps => rw [e] at h; cases h; exact .lst (.of a) (Reps.dp b e)
  | _, _, _, p, .dicF .., h => by simp [toPy] at h
  | _, _, _, p, .dicO .., h => by simp [toPy] at h
  | _, _, _, p, .set .., h => by simp [toPy] at h
  | _, _, _, p, .scr .., h => by simp [toPy] at h
theorem Reps.dp {K : PySem.W.Frag} {w : World} {P : Addr → Prop} {H : Hp} : ∀ {ds : List D} {vs : List V} {as : List Addr} {ps : List PyData}, Reps K w P H ds vs as → toPys ds = some ps → DpAll K H vs ps
  | _, _, _, ps, .nil, h => by simp only [toPys, Option.some.injEq] at h; subst h; exact .nil
  | d :: ds, _, _, ps, .cons a b, h => by
    simp only [toPys] at h
    cases e1 : toPy d with
    | none => rw [e1] at h; cases h
    | some p =>
      cases e2 : toPys ds with
      | none => rw [e1, e2] at h; cases h
      | some qs => rw [e1, e2] at h; cases h; exact .cons (Rep.dp a e1) (Reps.dp b e2)
end
/-- data that == tells -/
def okD (d : D) : Bool := match toPy d with
  | some p => SeqAt.shaped p
  | none => false
def dEq (d e : D) : Bool := match toPy d, toPy e with
  | some p, some q => PyData.eqv p q
  | _, _ => false
def gEq : List D → ER
  | [.str x, .str y] => .val (.bl (decide (x = y)))
  | [d, e] => if (okD d && okD e) = true then .val (.bl (dEq d e)) else .stuck
  | _ => .stuck
def gNe : List D → ER
  | [.str x, .str y] => .val (.bl (!decide (x = y)))
  | [d, e] => if (okD d && okD e) = true then .val (.bl (!dEq d e)) else .stuck
  | _ => .stuck
theorem NoX.eq : NoX gEq := fun ds c n h => by unfold gEq at h; split at h <;> (first | cases h | (split at h <;> cases h))
theorem NoX.ne : NoX gNe := fun ds c n h => by unfold gNe at h; split at h <;> (first | cases h | (split at h <;> cases h))
theorem okD_some {d : D} (h : okD d = true) : ∃ p, toPy d = some p ∧ SeqAt.shaped p = true := by
  unfold okD at h
  split at h
  · exact ⟨_, by assumption, h⟩
  · cases h
theorem op_eq' (hu : X.A.units + 64 < cLine) : Op2 X (compareOp .Eq) gEq := OpRi (OpR.or op_eq (op_eqD hu)) fun x y H Q h => by
  obtain ⟨P, a1, a2, d, e, r, fz, r1, r2, ow, hg, q⟩ := rD2 h
  unfold gEq at hg
  split at hg
  · rename_i i j he
    injection he with e1 e2; injection e2 with e2 _; subst e1 e2
    cases hg
    obtain ⟨rfl, _⟩ := r1.str_eq
    obtain ⟨rfl, _⟩ := r2.str_eq
    refine .inl ⟨rfl, ?_⟩
    have : decide (V.str i = V.str j) = decide (i = j) := by simp
    rw [this]
    exact q _ H (.bl _)
  · rename_i d' e' _ he
    injection he with e1 e2; injection e2 with e2 _; subst e1 e2
    split at hg
    · rename_i hok
      rw [Bool.and_eq_true] at hok
      cases hg
      obtain ⟨p1, t1, s1⟩ := okD_some hok.1
      obtain ⟨p2, t2, s2⟩ := okD_some hok.2
      refine .inr ⟨p1, p2, r1.dp t1, r2.dp t2, s1, s2, ?_⟩
      unfold dEq at q
      rw [t1, t2] at q
      exact q _ H (.bl _)
    · cases hg
  · cases hg
theorem op_ne' (hu : X.A.units + 64 < cLine) : Op2 X (compareOp .NotEq) gNe := OpRi (OpR.or op_ne (op_neD hu)) fun x y H Q h => by
  obtain ⟨P, a1, a2, d, e, r, fz, r1, r2, ow, hg, q⟩ := rD2 h
  unfold gNe at hg
  split at hg
  · rename_i i j he
    injection he with e1 e2; injection e2 with e2 _; subst e1 e2
    cases hg
    obtain ⟨rfl, _⟩ := r1.str_eq
    obtain ⟨rfl, _⟩ := r2.str_eq
    refine .inl ⟨rfl, ?_⟩
    have : decide (V.str i = V.str j) = decide (i = j) := by simp
    rw [this]
    exact q _ H (.bl _)
  · rename_i d' e' _ he
    injection he with e1 e2; injection e2 with e2 _; subst e1 e2
    split at hg
    · rename_i hok
      rw [Bool.and_eq_true] at hok
      cases hg
      obtain ⟨p1, t1, s1⟩ := okD_some hok.1
      obtain ⟨p2, t2, s2⟩ := okD_some hok.2
      refine .inr ⟨p1, p2, r1.dp t1, r2.dp t2, s1, s2, ?_⟩
      unfold dEq at q
      rw [t1, t2] at q
      exact q _ H (.bl _)
    · cases hg
  · cases hg
end
end DL

set_option Elab.async false
set_option linter.all false
set_option maxRecDepth 100000
namespace DL
open PySem PySem.Spec L2
open PyProof.Rows hiding St

theorem dx_blk {X : Cx} {W : WX} {k : Nat} (dx : Dx X W k) (s : Shared) (H : Hp) (scope : Scope) (ce : PySem.Env) (fp : List Addr) : Dx (X.blk s H scope ce fp) W0 k :=
  ⟨fun _ _ x => by obtain ⟨_, _, _, _, _, _, _, _, _, _, _, _, _, _, _, _, z⟩ := x; exact z.elim, dx.calm, dx.nd, dx.gd, dx.rm⟩

section
variable {X : Cx} {W : WX} {B : Fx} {elt tg iter tg1 iter1 : Expr} {ifs ifs1 : List Expr} {scope : Scope} {own : List (Str × Nat)} {pos : Pos} {rdi rdc rdf rdi1 rdc1 : List Nat} {l l1 : Lv} {gi gi1 : List D → Option (List D)} {t t1 : Tg} {c c1 f : Ev} {k : Nat}

theorem de_lc (dx : Dx X W k) (hi : DI X W tg iter rdi l gi) (ok : BlkOk X.N X.env.scope scope own) (hown : ∀ i ∈ t.slots, i ∈ own.map (·.2))
    (hg : ∀ (s : Shared) (H : Hp) (C : Addr) (cl : List (Str × Addr)) (fp : List Addr), DGv (X.blk s H scope (compEnvC scope cl C X.env) fp) tg (rdc ++ rdf) t)
    (ht : ∀ (s : Shared) (H : Hp) (C : Addr) (cl : List (Str × Addr)) (fp : List Addr), DTs (X.blk s H scope (compEnvC scope cl C X.env) fp) W0 ifs rdc c)
    (he : ∀ (s : Shared) (H : Hp) (C : Addr) (cl : List (Str × Addr)) (fp : List Addr), DE (X.blk s H scope (compEnvC scope cl C X.env) fp) W0 elt rdf f)
    (hs : ∀ x, foldedSetIterable iter X.env x = pure x := by intro _; rfl) : DE X W (.ListComp elt [⟨tg, iter, ifs, 0⟩] scope pos) (rdi ++ (rdc ++ rdf)) (eLc l gi t (own.map (·.2)) c f) :=
  PEi (pe_lc dx.calm dx.nd hi ok hg ht he hs) fun σ H Q h => lc_of hown h
/-- y = [..] on one line -/
theorem ds_setLc {i : Nat} {y : Str} {py spos : Pos} (dx : Dx X B.L.W k) (hy : X.N[i]? = some y) (hyl : X.env.scope.names.lookup y = some .local) (hL : B.L = lt X B.L.W)
    (hsw : swapsWith (.ListComp elt [⟨tg, iter, ifs, 0⟩] scope pos) (some (.Name y py)) spos.line X.env = pure true) (hi : DI X B.L.W tg iter rdi l gi) (ok : BlkOk X.N X.env.scope scope own) (hown : ∀ i ∈ t.slots, i ∈ own.map (·.2))
    (hg : ∀ (s : Shared) (H : Hp) (C : Addr) (cl : List (Str × Addr)) (fp : List Addr), DGv (X.blk s H scope (compEnvC scope cl C X.env) fp) tg (rdc ++ rdf) t)
    (ht : ∀ (s : Shared) (H : Hp) (C : Addr) (cl : List (Str × Addr)) (fp : List Addr), DTs (X.blk s H scope (compEnvC scope cl C X.env) fp) W0 ifs rdc c)
    (he : ∀ (s : Shared) (H : Hp) (C : Addr) (cl : List (Str × Addr)) (fp : List Addr), DE (X.blk s H scope (compEnvC scope cl C X.env) fp) W0 elt rdf f)
    (hs : ∀ x, foldedSetIterable iter X.env x = pure x := by intro _; rfl) :
    DS X B (.Assign [.Name y py] (.ListComp elt [⟨tg, iter, ifs, 0⟩] scope pos) spos) (sSet i (mE (rdi ++ (rdc ++ rdf)) (eLc l gi t (own.map (·.2)) c f))) :=
  PSi (ps_setLc dx.calm dx.nd hy hyl hsw hi ok hg ht he hs) fun D σ H ⟨ρ, fr, fvs, r, q⟩ => by
    show tLc _ _ _ _ _ σ H _
    have : tE (lt X B.L.W) (rdi ++ (rdc ++ rdf)) (eLc l gi t (own.map (·.2)) c f) σ H fun x H1 => gName i x σ H1 D.nx := by
      rw [← hL]
      refine tM_of ⟨ρ, fr, fvs, r, ?_⟩
      unfold sSet sAsg at q
      cases hm : mE (rdi ++ (rdc ++ rdf)) (eLc l gi t (own.map (·.2)) c f) ρ with
      | val d ρ' =>
        rw [hm] at q
        intro v H' r'
        simp only [Tg.put] at q
        exact q _ H' (r'.put i)
      | exc c n ρ' => rw [hm] at q; exact fun cls d H' r' x => q cls d σ H' r' x
      | stuck => rw [hm] at q; exact q
    exact lc_of hown this

/-- the new list so far -/
structure LcSt (K : PySem.W.Frag) (w : World) (Pi : Addr → Prop) (H1 : Hp) (Dd : Addr) (P' : Addr → Prop) (acc : List D) (H : Hp) : Prop where
  same : Same H1 H
  le : ∀ a, Pi a → P' a
  new : ∀ a, P' a → Pi a ∨ (H1 a = none ∧ ∃ o, H a = some o)
  st : ∃ vs as, H Dd = some (.lst vs) ∧ ¬ P' Dd ∧ Dd ∉ as ∧ Reps K w P' H acc vs as ∧ Own P' as ∧ ∀ a ∈ as, H1 a = none
section
variable {K : PySem.W.Frag} {w : World} {Pi P' P3 : Addr → Prop} {H1 H H' : Hp} {Dd : Addr} {acc : List D}
theorem LcSt.fz (z : LcSt K w Pi H1 Dd P' acc H) (fz : Fz Pi H1) : Fz P' H := fun a q => (z.new a q).elim (fun q => by obtain ⟨o, h⟩ := fz a q; exact ⟨o, z.same _ _ h⟩) fun q => q.2
theorem LcSt.grow (z : LcSt K w Pi H1 Dd P' acc H) (g : Grow P' P3 [] H H') : LcSt K w Pi H1 Dd P3 acc H' := by
  obtain ⟨vs, as, hD, np, nD, rr, ow, fr⟩ := z.st
  have new3 : ∀ a, P3 a → P' a ∨ (H a = none ∧ ∃ o, H' a = some o) := fun a q => (g.new a q).elim .inl fun q => q.elim (fun q => nomatch q) .inr
  have out : ∀ a, (∃ o, H a = some o) → ¬ P' a → ¬ P3 a := fun a ⟨o, h⟩ n q => (new3 a q).elim n fun ⟨q, _⟩ => by rw [h] at q; cases q
  refine ⟨z.same.trans g.same, fun a q => g.le a (z.le a q), fun a q => ?_, vs, as, g.same _ _ hD, out Dd ⟨_, hD⟩ np, nD, rr.mono g.same g.le, ⟨ow.nd, fun a q => out a ((rr.there a q).some) (ow.np a q)⟩, fr⟩
  rcases new3 a q with q | ⟨q, y⟩
  · rcases z.new a q with q | ⟨q, o, y⟩
    · exact .inl q
    · exact .inr ⟨q, o, g.same _ _ y⟩
  · exact .inr ⟨z.same.free q, y⟩
theorem LcSt.same' (z : LcSt K w Pi H1 Dd P' acc H) (e : Same H H') : LcSt K w Pi H1 Dd P' acc H' := z.grow (.of_same e)
theorem LcSt.app (z : LcSt K w Pi H1 Dd P' acc H) (hD1 : H1 Dd = none) {d : D} {y : V} (o : Out K w P' [] H H' d y) : ∃ vs P5, H' Dd = some (.lst vs) ∧ vs.length = acc.length ∧ Grow P' P5 [] H H' ∧ Wr P5 H' Dd ∧ LcSt K w Pi H1 Dd P5 (acc ++ [d]) (upd H' Dd (.lst (vs ++ [y]))) := by
  obtain ⟨P5, a5, g5, r5, o5, n5⟩ := o
  have z5 := z.grow g5
  obtain ⟨vs1, as1, hD0, np1, nD1, rr1, ow1, fr1⟩ := z.st
  have fr5 : ∀ a ∈ a5, H a = none := fun a q => (n5 a q).elim (fun q => nomatch q) id
  have nD5 : Dd ∉ a5 := fun q => by have := fr5 Dd q; rw [hD0] at this; cases this
  have e5 : H' Dd = some (.lst vs1) := g5.same _ _ hD0
  have rrA : Reps K w P5 H' acc vs1 as1 := rr1.mono g5.same g5.le
  have st1 : ∀ a ∈ as1, ∃ o, H a = some o := fun a q => (rr1.there a q).some
  have out : ∀ a, (∃ o, H a = some o) → ¬ P' a → ¬ P5 a := fun a ⟨o, h⟩ n q => by
    rcases g5.new a q with q | q | ⟨q, _⟩
    · exact n q
    · cases q
    · rw [h] at q; cases q
  have np : ¬ P5 Dd := out Dd ⟨_, hD0⟩ np1
  have wr : Wr P5 H' Dd := ⟨.inl ⟨_, e5⟩, np⟩
  refine ⟨vs1, P5, e5, rr1.length.symm, g5, wr, ⟨fun a o ho => ?_, z5.le, fun a q => ?_, vs1 ++ [y], as1 ++ a5, upd_same, np, fun q => (List.mem_append.mp q).elim nD1 nD5, ?_, ⟨?_, fun a q => ?_⟩, fun a q => ?_⟩⟩
  · rw [upd_ne (ne_of_none ho hD1)]; exact z5.same _ _ ho
  · rcases z5.new a q with q | ⟨q, o, yy⟩
    · exact .inl q
    · by_cases hDa : a = Dd
      · subst hDa; exact .inr ⟨q, _, upd_same⟩
      · exact .inr ⟨q, o, by rw [upd_ne hDa]; exact yy⟩
  · exact (rrA.upd wr nD1).append (by have := Reps.cons (r5.upd (o := .lst (vs1 ++ [y])) wr nD5) .nil; rw [List.append_nil] at this; exact this)
  · exact List.nodup_append.mpr ⟨ow1.nd, o5.nd, fun x hx y hy e => by
      subst e
      obtain ⟨o, ho⟩ := st1 x hx
      rw [fr5 x hy] at ho; cases ho⟩
  · rcases List.mem_append.mp q with q | q
    · exact out a (st1 a q) (ow1.np a q)
    · exact o5.np a q
  · rcases List.mem_append.mp q with q | q
    · exact fr1 a q
    · exact z.same.free (fr5 a q)
theorem View.upd1 {P : Addr → Prop} {rd : List Nat} {ρ : Env} {σ : St} {x : Addr} {o : HO} (h : View K w P H rd ρ σ) (wr : Wr P H x) : View K w P (L2.upd H x o) rd ρ σ :=
  ⟨fun a q => by obtain ⟨ob, ho⟩ := h.fz a q; exact ⟨ob, by rw [upd_ne (wr.ne q)]; exact ho⟩, h.len, fun i hi d hd => by
    obtain ⟨v, a, b⟩ := h.get i hi d hd
    exact ⟨v, a, b.upd wr (fun z => nomatch z)⟩⟩
theorem View.up {P P' : Addr → Prop} {rd : List Nat} {ρ : Env} {σ : St} (h : View K w P H rd ρ σ) (e : Same H H') (p : ∀ a, P a → P' a) (fz : Fz P' H') : View K w P' H' rd ρ σ :=
  ⟨fz, h.len, fun i hi d hd => by
    obtain ⟨v, a, b⟩ := h.get i hi d hd
    exact ⟨v, a, b.mono e p⟩⟩
end
def lcL2 (t : Tg) (c : Ev) (l1 : Lv) (gi1 : List D → Option (List D)) (own1 : List Nat) (t1 : Tg) (c1 f : Ev) (ρ : Env) : List D → LR
  | [] => .vals []
  | x :: xs => match t.put x ρ with
    | none => .stuck
    | some ρ1 => match c ρ1 with
      | .val (.bl true) => (match l1 ρ1 with
        | .vals ds => (match gi1 ds with
          | some ys => (match lcL t1 c1 f (wipeE ρ1 own1) (fzs ys) with
            | .vals es => (match lcL2 t c l1 gi1 own1 t1 c1 f ρ xs with
              | .vals rs => .vals (es ++ rs)
              | _ => .stuck)
            | _ => .stuck)
          | none => .stuck)
        | _ => .stuck)
      | .val (.bl false) => lcL2 t c l1 gi1 own1 t1 c1 f ρ xs
      | _ => .stuck
def eLc2 (l : Lv) (gi : List D → Option (List D)) (t : Tg) (own : List Nat) (c : Ev) (l1 : Lv) (gi1 : List D → Option (List D)) (t1 : Tg) (own1 : List Nat) (c1 f : Ev) : Ev := fun ρ => match l ρ with
  | .vals ds => (match gi ds with
    | some xs => (match lcL2 t c l1 gi1 own1 t1 c1 f (wipeE ρ own) (fzs xs) with
      | .vals rs => if rs.length ≤ sizeLine then .val (.lst true rs) else .stuck
      | _ => .stuck)
    | none => .stuck)
  | .exc c n => .exc c n
  | .stuck => .stuck
theorem lcL2_drop {l1 : Lv} {gi1 : List D → Option (List D)} {own1 : List Nat} {t t1 : Tg} {c c1 f : Ev} {ρ : Env} {xs : List D} {i : Nat} {x : D} (h : xs[i]? = some x) : lcL2 t c l1 gi1 own1 t1 c1 f ρ (xs.drop i) = lcL2 t c l1 gi1 own1 t1 c1 f ρ (x :: xs.drop (i + 1)) := by
  rw [List.drop_eq_getElem_cons (List.getElem?_eq_some_iff.mp h).1, (List.getElem?_eq_some_iff.mp h).2]
/-- what a value walked comes to -/
theorem ItOk.item {K : PySem.W.Frag} {w : World} {J : It} {fd : List D} {fv : List V} {xs : List D} (ok : ItOk K w J fd fv xs) {P : Addr → Prop} {H : Hp} (fz : Fz P H) (rr : Reps K w P H fd fv []) {i : Nat} {x : D} (hx : xs[i]? = some x) :
    J.go i H ∧ ∀ v H', J.yld i H v H' → ∃ P3, Grow P P3 [] H H' ∧ Rep K w P3 H' x.fz v [] := by
  obtain ⟨a, b⟩ := (ok P H fz rr i).1 x hx
  refine ⟨a, fun v H' y => ?_⟩
  obtain ⟨P3, a3, g3, r3, o3, n3⟩ := b v H' y
  have : a3 = [] := Rep.fz_nil (d := x) r3
  subst this
  exact ⟨P3, g3, r3⟩
theorem lc2_of {L : Lt} {own own1 : List Nat} (hown : ∀ i ∈ t.slots, i ∈ own) (hown1 : ∀ i ∈ t1.slots, i ∈ own1) (h1own : ∀ i ∈ own1, i ∈ own) {σ : St} {H : Hp} {Q : VK}
    (h : tE L (rdi ++ (rdc ++ (rdi1 ++ (rdc1 ++ rdf)))) (eLc2 l gi t own c l1 gi1 t1 own1 c1 f) σ H Q) :
    tLc2 (tI L rdi l gi) (tGv L.K L.w (rdc ++ (rdi1 ++ (rdc1 ++ rdf))) t) (tT ⟨L.K, L.w, L.mg, W0⟩ rdc c) (tI ⟨L.K, L.w, L.mg, W0⟩ rdi1 l1 gi1) (tGv L.K L.w (rdc1 ++ rdf) t1) (tT ⟨L.K, L.w, L.mg, W0⟩ rdc1 c1) (tE ⟨L.K, L.w, L.mg, W0⟩ rdf f) own own1 σ H Q := by
  obtain ⟨ρ, P, vw, q⟩ := h
  refine ⟨ρ, P, vw.left, ?_⟩
  unfold eLc2 at q
  cases hl : l ρ with
  | exc c n => rw [hl] at q; exact q
  | stuck => rw [hl] at q; exact q
  | vals ds =>
    rw [hl] at q
    cases hx : gi ds with
    | none => simp only [hx] at q
    | some xs =>
      simp only [hx] at q ⊢
      cases hL : lcL2 t c l1 gi1 own1 t1 c1 f (wipeE ρ own) (fzs xs) with
      | exc c n => simp only [hL] at q
      | stuck => simp only [hL] at q
      | vals rs =>
        simp only [hL] at q
        by_cases hz : rs.length ≤ sizeLine
        · simp only [hz, if_true] at q
          intro J fvs gd gv H1 o gh ok Dd hD
          obtain ⟨P1, a1, g1, rr1, ow1, n1⟩ := o
          have th1 : ∀ a ∈ a1, ∃ o, H1 a = some o := fun a z => (rr1.there a z).some
          have rrf : Reps L.K L.w (fun a => P1 a ∨ a ∈ a1) H1 (fzs ds) fvs [] := rr1.fz (fun _ z => .inl z) (fun _ z => .inr z)
          have gi1' : Grow P (fun a => P1 a ∨ a ∈ a1) [] H H1 := ⟨g1.same, fun a z => .inl (g1.le a z), fun a z => z.elim (g1.new a) fun z => .inr (.inr ⟨(n1 a z).elim (fun z => nomatch z) id, th1 a z⟩)⟩
          generalize hPi : (fun a => P1 a ∨ a ∈ a1) = Pi at rrf gi1'
          have fzi : Fz Pi H1 := gi1'.fz vw.fz (fun _ z => nomatch z)
          have vwi : View L.K L.w Pi H1 (rdc ++ (rdi1 ++ (rdc1 ++ rdf))) (wipeE ρ own) (L2.wipe σ own) := (vw.right.grow gi1' (fun _ z => nomatch z)).wipe own
          have npD : ¬ Pi Dd := fun z => by obtain ⟨o, ho⟩ := fzi Dd z; rw [hD] at ho; cases ho
          have z0 : LcSt L.K L.w Pi H1 Dd Pi [] (upd H1 Dd (.lst [])) := ⟨same_new hD, fun _ z => z, fun _ z => .inl z, [], [], upd_same, npD, (fun z => nomatch z), .nil, .nil, fun _ z => nomatch z⟩
          have lx : (fzs xs).length = xs.length := by rw [fzs_eq, List.length_map]
          refine ⟨fun i m H2 => m = (fzs xs).length - i ∧ i ≤ (fzs xs).length ∧ ∃ P' acc rest, LcSt L.K L.w Pi H1 Dd P' acc H2 ∧ lcL2 t c l1 gi1 own1 t1 c1 f (wipeE ρ own) ((fzs xs).drop i) = .vals rest ∧ acc ++ rest = rs, ⟨_, rfl, Nat.zero_le _, Pi, [], rs, z0, by simpa using hL, rfl⟩, ?_⟩
          rintro i m H2 ⟨rfl, hi, P', acc, rest, z, hrest, hall⟩
          have fz' := z.fz fzi
          have rrP := (gh Pi rrf).mono z.same z.le
          by_cases hlt : i < xs.length
          · obtain ⟨x, hx'⟩ : ∃ x, xs[i]? = some x := ⟨xs[i], List.getElem?_eq_getElem hlt⟩
            rw [lcL2_drop (fzs_get hx')] at hrest
            unfold lcL2 at hrest
            cases ht : t.put x.fz (wipeE ρ own) with
            | none => simp only [ht] at hrest; cases hrest
            | some ρ1 =>
            simp only [ht] at hrest
            obtain ⟨go, yl⟩ := ok.item fz' rrP hx'
            refine .inr ⟨go, fun H5 => ∃ P' acc rest, LcSt L.K L.w Pi H1 Dd P' acc H5 ∧ lcL2 t c l1 gi1 own1 t1 c1 f (wipeE ρ own) ((fzs xs).drop (i + 1)) = .vals rest ∧ acc ++ rest = rs, fun H5 z => ⟨_, by rw [lx]; omega, rfl, by rw [lx]; omega, z⟩, fun v H3 y => ?_⟩
            obtain ⟨P3, g3, r3⟩ := yl v H3 y
            have z3 := z.grow g3
            have vw3 := vwi.up (z3.same) z3.le (z3.fz fzi)
            refine ⟨wipeE ρ own, P3, x.fz, vw3, r3, ?_⟩
            rw [ht]
            intro σ2 kσ vwσ
            refine ⟨?_, ρ1, P3, vwσ.sub (fun i hi => List.mem_append_right _ (List.mem_append_left _ hi)), ?_⟩
            · apply List.ext_getElem?
              intro j
              by_cases hj : j ∈ own
              · rw [wipe_in hj (by rw [← vwσ.len, Tg.put_len ht, wipeE_length, vw.len]), wipe_in hj rfl]
              · rw [wipe_keep hj, kσ j (fun z => hj (hown j z)), wipe_keep hj]
            · cases hc : c ρ1 with
              | val dc =>
                cases dc with
                | bl b =>
                  simp only [hc] at hrest
                  intro H4 e4
                  have z4 := z3.same' e4
                  cases b with
                  | false =>
                    simp only [Bool.false_eq_true, if_false]
                    simp only at hrest
                    exact ⟨P3, acc, rest, z4, hrest, hall⟩
                  | true =>
                    simp only [if_true]
                    simp only at hrest
                    refine ⟨ρ1, P3, (vwσ.sub (fun i hi => List.mem_append_right _ (List.mem_append_right _ (List.mem_append_left _ hi)))).same e4, ?_⟩
                    cases hl1 : l1 ρ1 with
                    | exc c n => simp only [hl1] at hrest; cases hrest
                    | stuck => simp only [hl1] at hrest; cases hrest
                    | vals ds1 =>
                    simp only [hl1] at hrest
                    cases hg1 : gi1 ds1 with
                    | none => simp only [hg1] at hrest; cases hrest
                    | some ys =>
                    simp only [hg1] at hrest ⊢
                    cases hes : lcL t1 c1 f (wipeE ρ1 own1) (fzs ys) with
                    | exc c n => simp only [hes] at hrest; cases hrest
                    | stuck => simp only [hes] at hrest; cases hrest
                    | vals es =>
                    simp only [hes] at hrest
                    cases hr2 : lcL2 t c l1 gi1 own1 t1 c1 f (wipeE ρ own) ((fzs xs).drop (i + 1)) with
                    | exc c n => simp only [hr2] at hrest; cases hrest
                    | stuck => simp only [hr2] at hrest; cases hrest
                    | vals rest2 =>
                    simp only [hr2] at hrest
                    cases hrest
                    intro J1 fvs1 gd1 gv1 H5 o5 gh1 ok1
                    obtain ⟨P5, a5, g5, rr5, ow5, n5⟩ := o5
                    have th5 : ∀ a ∈ a5, ∃ o, H5 a = some o := fun a z => (rr5.there a z).some
                    have rrf5 : Reps L.K L.w (fun a => P5 a ∨ a ∈ a5) H5 (fzs ds1) fvs1 [] := rr5.fz (fun _ z => .inl z) (fun _ z => .inr z)
                    have gi5 : Grow P3 (fun a => P5 a ∨ a ∈ a5) [] H4 H5 := ⟨g5.same, fun a z => .inl (g5.le a z), fun a z => z.elim (g5.new a) fun z => .inr (.inr ⟨(n5 a z).elim (fun z => nomatch z) id, th5 a z⟩)⟩
                    generalize hPj : (fun a => P5 a ∨ a ∈ a5) = Pj at rrf5 gi5
                    have z5 := z4.grow gi5
                    have vw5 : View L.K L.w Pj H5 (rdc1 ++ rdf) (wipeE ρ1 own1) (L2.wipe σ2 own1) := ((vwσ.sub (fun i hi => List.mem_append_right _ (List.mem_append_right _ (List.mem_append_right _ hi)))).up (e4.trans gi5.same) gi5.le (z5.fz fzi)).wipe own1
                    have ly : (fzs ys).length = ys.length := by rw [fzs_eq, List.length_map]
                    have fz5 := z5.fz fzi
                    refine ⟨fun j k H6 => k = (fzs ys).length - j ∧ j ≤ (fzs ys).length ∧ ∃ P' acc1 rest1, LcSt L.K L.w Pi H1 Dd P' acc1 H6 ∧ View L.K L.w P' H6 (rdc1 ++ rdf) (wipeE ρ1 own1) (L2.wipe σ2 own1) ∧ Reps L.K L.w P' H6 (fzs gd1) gv1 [] ∧
                      lcL t1 c1 f (wipeE ρ1 own1) ((fzs ys).drop j) = .vals rest1 ∧ acc1 ++ rest1 = acc ++ es, ⟨_, rfl, Nat.zero_le _, Pj, acc, es, z5, vw5, gh1 Pj rrf5, by simpa using hes, rfl⟩, ?_⟩
                    rintro j k H6 ⟨rfl, hj, P6, acc1, rest1, z6, vw6, rrP6, hrest1, hall1⟩
                    have fz6 := z6.fz fzi
                    by_cases hltj : j < ys.length
                    · obtain ⟨yx, hy'⟩ : ∃ x, ys[j]? = some x := ⟨ys[j], List.getElem?_eq_getElem hltj⟩
                      rw [lcL_drop (fzs_get hy')] at hrest1
                      unfold lcL at hrest1
                      cases ht1 : t1.put yx.fz (wipeE ρ1 own1) with
                      | none => simp only [ht1] at hrest1; cases hrest1
                      | some ρ2 =>
                      simp only [ht1] at hrest1
                      obtain ⟨go1, yl1⟩ := ok1.item fz6 rrP6 hy'
                      refine .inr ⟨go1, fun H9 => ∃ P' acc1 rest1, LcSt L.K L.w Pi H1 Dd P' acc1 H9 ∧ View L.K L.w P' H9 (rdc1 ++ rdf) (wipeE ρ1 own1) (L2.wipe σ2 own1) ∧ Reps L.K L.w P' H9 (fzs gd1) gv1 [] ∧
                        lcL t1 c1 f (wipeE ρ1 own1) ((fzs ys).drop (j + 1)) = .vals rest1 ∧ acc1 ++ rest1 = acc ++ es, fun H9 z => ⟨_, by rw [ly]; omega, rfl, by rw [ly]; omega, z⟩, fun v H7 y7 => ?_⟩
                      obtain ⟨P7, g7, r7⟩ := yl1 v H7 y7
                      have z7 := z6.grow g7
                      have vw7 := vw6.up g7.same g7.le (z7.fz fzi)
                      have rr7 := rrP6.mono g7.same g7.le
                      refine ⟨wipeE ρ1 own1, P7, yx.fz, vw7, r7, ?_⟩
                      rw [ht1]
                      intro σ3 kσ3 vwσ3
                      refine ⟨?_, ρ2, P7, vwσ3.sub (fun i hi => List.mem_append_right _ (List.mem_append_left _ hi)), ?_⟩
                      · apply List.ext_getElem?
                        intro j
                        by_cases hj : j ∈ own1
                        · rw [wipe_in hj (by rw [← vwσ3.len, Tg.put_len ht1, wipeE_length, vwσ.len]), wipe_in hj rfl]
                        · rw [wipe_keep hj, kσ3 j (fun z => hj (hown1 j z)), wipe_keep hj]
                      · cases hc1 : c1 ρ2 with
                        | val dc1 =>
                          cases dc1 with
                          | bl b1 =>
                            simp only [hc1] at hrest1
                            intro H8 e8
                            have z8 := z7.same' e8
                            cases b1 with
                            | false =>
                              simp only [Bool.false_eq_true, if_false]
                              simp only at hrest1
                              exact ⟨P7, acc1, rest1, z8, vw7.same e8, rr7.mono e8 fun _ z => z, hrest1, hall1⟩
                            | true =>
                              simp only [if_true]
                              simp only at hrest1
                              cases hf : f ρ2 with
                              | exc c n => simp only [hf] at hrest1; cases hrest1
                              | stuck => simp only [hf] at hrest1; cases hrest1
                              | val d =>
                              simp only [hf] at hrest1
                              cases hr3 : lcL t1 c1 f (wipeE ρ1 own1) ((fzs ys).drop (j + 1)) with
                              | exc c n => simp only [hr3] at hrest1; cases hrest1
                              | stuck => simp only [hr3] at hrest1; cases hrest1
                              | vals rest3 =>
                              simp only [hr3] at hrest1
                              cases hrest1
                              refine ⟨ρ2, P7, (vwσ3.sub (fun i hi => List.mem_append_right _ (List.mem_append_right _ hi))).same e8, ?_⟩
                              rw [hf]
                              intro yv H9 o9
                              obtain ⟨vs9, P9, hD9, hl9, g9, wr9, z9⟩ := z8.app hD o9
                              refine ⟨vs9, hD9, ?_, P9, acc1 ++ [d], rest3, z9, ((vw7.same e8).up g9.same g9.le (g9.fz (z8.fz fzi) (fun _ z => nomatch z))).upd1 wr9, ((rr7.mono e8 fun _ z => z).mono g9.same g9.le).upd wr9 (fun z => nomatch z), rfl, by rw [← hall1]; simp⟩
                              have e1 : rs.length = acc.length + (es.length + rest2.length) := by rw [← hall]; simp
                              have e2 : acc1.length + (rest3.length + 1) = acc.length + es.length := by have := congrArg List.length hall1; simpa using this
                              omega
                          | _ => simp only [hc1] at hrest1; cases hrest1
                        | exc c n => simp only [hc1] at hrest1; cases hrest1
                        | stuck => simp only [hc1] at hrest1; cases hrest1
                    · have hdr : (fzs ys).drop j = [] := List.drop_eq_nil_iff.mpr (by rw [ly]; omega)
                      rw [hdr] at hrest1
                      unfold lcL at hrest1
                      cases hrest1
                      rw [List.append_nil] at hall1
                      subst hall1
                      exact .inl ⟨(ok1 P6 H6 fz6 rrP6 j).2 (by omega), P6, _, rest2, z6, rfl, by rw [← hall, List.append_assoc]⟩
                | _ => simp only [hc] at hrest; cases hrest
              | exc c n => simp only [hc] at hrest; cases hrest
              | stuck => simp only [hc] at hrest; cases hrest
          · have hdr : (fzs xs).drop i = [] := List.drop_eq_nil_iff.mpr (by rw [lx]; omega)
            rw [hdr] at hrest
            unfold lcL2 at hrest
            cases hrest
            rw [List.append_nil] at hall
            subst hall
            obtain ⟨vs, as, hDv, npD', nDa, racc, ow, fra⟩ := z.st
            refine .inl ⟨(ok P' H2 fz' rrP i).2 (by omega), q _ _ ⟨P', Dd :: as, ⟨g1.same.trans z.same, fun a y => z.le a (gi1'.le a y), fun a y => ?_⟩, .lstO hDv racc, ⟨List.nodup_cons.mpr ⟨nDa, ow.nd⟩, fun a y => ?_⟩, fun a y => .inr ?_⟩⟩
            · rcases z.new a y with y | ⟨y, o, k⟩
              · rcases gi1'.new a y with y | y | ⟨y, o, k⟩
                · exact .inl y
                · cases y
                · exact .inr (.inr ⟨y, o, z.same _ _ k⟩)
              · exact .inr (.inr ⟨g1.same.free y, o, k⟩)
            · rcases List.mem_cons.mp y with rfl | y
              · exact npD'
              · exact ow.np a y
            · rcases List.mem_cons.mp y with rfl | y
              · exact g1.same.free hD
              · exact g1.same.free (fra a y)
        · simp only [hz, if_false] at q

theorem de_lc2 {own1 : List Nat} (dx : Dx X W k) (hi : DI X W tg iter rdi l gi) (ok : BlkOk X.N X.env.scope scope own) (hown : ∀ i ∈ t.slots, i ∈ own.map (·.2)) (hown1 : ∀ i ∈ t1.slots, i ∈ own1) (h1own : ∀ i ∈ own1, i ∈ own.map (·.2))
    (hg : ∀ (s : Shared) (H : Hp) (C : Addr) (cl : List (Str × Addr)) (fp : List Addr), DGv (X.blk s H scope (compEnvC scope cl C X.env) fp) tg (rdc ++ (rdi1 ++ (rdc1 ++ rdf))) t)
    (ht : ∀ (s : Shared) (H : Hp) (C : Addr) (cl : List (Str × Addr)) (fp : List Addr), DTs (X.blk s H scope (compEnvC scope cl C X.env) fp) W0 ifs rdc c)
    (hi1 : ∀ (s : Shared) (H : Hp) (C : Addr) (cl : List (Str × Addr)) (fp : List Addr), DI (X.blk s H scope (compEnvC scope cl C X.env) fp) W0 tg1 iter1 rdi1 l1 gi1)
    (hg1 : ∀ (s : Shared) (H : Hp) (C : Addr) (cl : List (Str × Addr)) (fp : List Addr), DGv (X.blk s H scope (compEnvC scope cl C X.env) fp) tg1 (rdc1 ++ rdf) t1)
    (ht1 : ∀ (s : Shared) (H : Hp) (C : Addr) (cl : List (Str × Addr)) (fp : List Addr), DTs (X.blk s H scope (compEnvC scope cl C X.env) fp) W0 ifs1 rdc1 c1)
    (he : ∀ (s : Shared) (H : Hp) (C : Addr) (cl : List (Str × Addr)) (fp : List Addr), DE (X.blk s H scope (compEnvC scope cl C X.env) fp) W0 elt rdf f)
    (hs : ∀ x, foldedSetIterable iter X.env x = pure x := by intro _; rfl) (hs1 : ∀ env x, foldedSetIterable iter1 env x = pure x := by intro _ _; rfl) :
    DE X W (.ListComp elt [⟨tg, iter, ifs, 0⟩, ⟨tg1, iter1, ifs1, 0⟩] scope pos) (rdi ++ (rdc ++ (rdi1 ++ (rdc1 ++ rdf)))) (eLc2 l gi t (own.map (·.2)) c l1 gi1 t1 own1 c1 f) :=
  PEi (pe_lc2 dx.calm dx.nd hi ok h1own hg ht hi1 hg1 ht1 he hs hs1) fun σ H Q h => lc2_of hown hown1 h1own h
theorem ds_setLc2 {own1 : List Nat} {i : Nat} {y : Str} {py spos : Pos} (dx : Dx X B.L.W k) (hy : X.N[i]? = some y) (hyl : X.env.scope.names.lookup y = some .local) (hL : B.L = lt X B.L.W)
    (hsw : swapsWith (.ListComp elt [⟨tg, iter, ifs, 0⟩, ⟨tg1, iter1, ifs1, 0⟩] scope pos) (some (.Name y py)) spos.line X.env = pure true) (hi : DI X B.L.W tg iter rdi l gi) (ok : BlkOk X.N X.env.scope scope own) (hown : ∀ i ∈ t.slots, i ∈ own.map (·.2)) (hown1 : ∀ i ∈ t1.slots, i ∈ own1) (h1own : ∀ i ∈ own1, i ∈ own.map (·.2))
    (hg : ∀ (s : Shared) (H : Hp) (C : Addr) (cl : List (Str × Addr)) (fp : List Addr), DGv (X.blk s H scope (compEnvC scope cl C X.env) fp) tg (rdc ++ (rdi1 ++ (rdc1 ++ rdf))) t)
    (ht : ∀ (s : Shared) (H : Hp) (C : Addr) (cl : List (Str × Addr)) (fp : List Addr), DTs (X.blk s H scope (compEnvC scope cl C X.env) fp) W0 ifs rdc c)
    (hi1 : ∀ (s : Shared) (H : Hp) (C : Addr) (cl : List (Str × Addr)) (fp : List Addr), DI (X.blk s H scope (compEnvC scope cl C X.env) fp) W0 tg1 iter1 rdi1 l1 gi1)
    (hg1 : ∀ (s : Shared) (H : Hp) (C : Addr) (cl : List (Str × Addr)) (fp : List Addr), DGv (X.blk s H scope (compEnvC scope cl C X.env) fp) tg1 (rdc1 ++ rdf) t1)
    (ht1 : ∀ (s : Shared) (H : Hp) (C : Addr) (cl : List (Str × Addr)) (fp : List Addr), DTs (X.blk s H scope (compEnvC scope cl C X.env) fp) W0 ifs1 rdc1 c1)
    (he : ∀ (s : Shared) (H : Hp) (C : Addr) (cl : List (Str × Addr)) (fp : List Addr), DE (X.blk s H scope (compEnvC scope cl C X.env) fp) W0 elt rdf f)
    (hs : ∀ x, foldedSetIterable iter X.env x = pure x := by intro _; rfl) (hs1 : ∀ env x, foldedSetIterable iter1 env x = pure x := by intro _ _; rfl) :
    DS X B (.Assign [.Name y py] (.ListComp elt [⟨tg, iter, ifs, 0⟩, ⟨tg1, iter1, ifs1, 0⟩] scope pos) spos) (sSet i (mE (rdi ++ (rdc ++ (rdi1 ++ (rdc1 ++ rdf)))) (eLc2 l gi t (own.map (·.2)) c l1 gi1 t1 own1 c1 f))) :=
  PSi (ps_setLc2 dx.calm dx.nd hy hyl hsw hi ok h1own hg ht hi1 hg1 ht1 he hs hs1) fun D σ H ⟨ρ, fr, fvs, r, q⟩ => by
    show tLc2 _ _ _ _ _ _ _ _ _ σ H _
    have : tE (lt X B.L.W) (rdi ++ (rdc ++ (rdi1 ++ (rdc1 ++ rdf)))) (eLc2 l gi t (own.map (·.2)) c l1 gi1 t1 own1 c1 f) σ H fun x H1 => gName i x σ H1 D.nx := by
      rw [← hL]
      refine tM_of ⟨ρ, fr, fvs, r, ?_⟩
      unfold sSet sAsg at q
      cases hm : mE (rdi ++ (rdc ++ (rdi1 ++ (rdc1 ++ rdf)))) (eLc2 l gi t (own.map (·.2)) c l1 gi1 t1 own1 c1 f) ρ with
      | val d ρ' =>
        rw [hm] at q
        intro v H' r'
        simp only [Tg.put] at q
        exact q _ H' (r'.put i)
      | exc c n ρ' => rw [hm] at q; exact fun cls d H' r' x => q cls d σ H' r' x
      | stuck => rw [hm] at q; exact q
    exact lc2_of hown hown1 h1own this
end
end DL

set_option Elab.async false
set_option linter.all false
set_option maxRecDepth 100000
namespace PySem
set_option maxHeartbeats 1000000 in
theorem meets_enum1B {v : Value} {o : Obj} {H : Heap → Prop} (B : Begins v o H) :
    Meets (Builtin.«enumerate.__new__» ⟨[.type "enumerate", v], []⟩) (fun _ R s => H s.heap ∧
      R (.ok (.ret (.ref (s.heap.push o).objs.size))) { s with heap := (s.heap.push o).push { cls := .type "enumerate", data := .fields #[.none, .bool false, .ref s.heap.objs.size, rawInt 0, .none, .none] } }) :=
  .of_wp fun prog w A R s h => by
    obtain ⟨hp, g, d, tk, os⟩ := s; obtain ⟨h1, h⟩ := h
    have hsub := sub_enumerate
    have q1 : ∀ {A' : Around} {E : Value → Shared → Prop} {Q : Value → Shared → Prop}, Q (.ref hp.objs.size) ⟨hp.push o, g, d, tk, os⟩ → wpAny (model prog w) A' (pyIter v) Q E ⟨hp, g, d, tk, os⟩ :=
      fun q => B.iter prog w _ _ ⟨hp, g, d, tk, os⟩ _ h1 q
    wp_walk using q1
    refine wpAny_stack_any fun st => wpAny_pure ?_
    split
    · rename_i c _ _ _ _ _
      cases (c == Value.type "enumerate")
      · wp_walk using q1
        exact ⟨_, rfl, h⟩
      · wp_walk using q1
        exact ⟨_, rfl, h⟩
    · wp_walk using q1
      exact ⟨_, rfl, h⟩
theorem enum1_begins {prog : Program} {w : World} {A : Around} {E : Value → Shared → Prop} {s : Shared} {v : Value} {o : Obj} {H : Heap → Prop} {Q : Value → Shared → Prop} (B : Begins v o H) (h1 : H s.heap)
    (h : ∀ h', IsEnum h' (s.heap.objs.size + 1) s.heap.objs.size 0 .none → h'.get? s.heap.objs.size = some o → h'.objs.size = s.heap.objs.size + 2 →
      (∀ b o, s.heap.get? b = some o → h'.get? b = some o) → Q (.ref (s.heap.objs.size + 1)) { s with heap := h' }) :
    wpAny (model prog w) A (call (.type "enumerate") [v]) Q E s := by
  refine callType_new F.called_enumerate (by decide) (F.typeCall_enumerate_1 _) (F.newCall_enumerate_1 _) (fun obj => F.args_object_init_2 obj _) F.entry_enumerate_new (meets_enum1B B) ⟨h1, ?_⟩
  have hz : (s.heap.push o).objs.size = s.heap.objs.size + 1 := Heap.size_push ..
  show _ ∧ _
  rw [hz]
  have he : IsEnum ((s.heap.push o).push { cls := .type "enumerate", data := .fields #[.none, .bool false, .ref s.heap.objs.size, rawInt 0, .none, .none] }) (s.heap.objs.size + 1) s.heap.objs.size 0 .none := by
    have := Heap.get?_push_size (s.heap.push o) (o := { cls := .type "enumerate", data := .fields #[.none, .bool false, .ref s.heap.objs.size, rawInt 0, .none, .none] }) rfl
    rw [hz] at this; exact this
  refine ⟨⟨_, he, rfl⟩, h _ he (Heap.get?_push_of_some _ (Heap.get?_push_size _ B.free)) (by rw [Heap.size_push, hz]) fun b o x => Heap.get?_push_of_some _ (Heap.get?_push_of_some _ x)⟩
end PySem

namespace DL
open PySem PySem.Spec L2
open PyProof.Rows hiding St

abbrev itA (b : Bool) (h : Heap) (it a : Addr) (i : Nat) : Prop := match b with
  | true => h.IsListIter it a i
  | false => h.IsTupleIter it a i
abbrev srcA (b : Bool) (h : Heap) (a : Addr) (items : Array Value) : Prop := match b with
  | true => h.IsList a items
  | false => h.IsTuple a items
abbrev SqK (b : Bool) (K : PySem.W.Frag) (H : Hp) (a : Addr) (xs : List V) : Prop := match b with
  | true => SqL K H a xs
  | false => SqT K H a xs
abbrev obA (b : Bool) (a : Addr) : Obj := match b with
  | true => { cls := .type "list_iterator", data := .fields #[.ref a, .int 0 0] }
  | false => { cls := .type "tuple_iterator", data := .fields #[.ref a, .int 0 0] }
theorem beginsA : ∀ (b : Bool) (a : Addr) (items : Array Value), Begins (.ref a) (obA b a) fun h => srcA b h a items
  | true, a, items => begins_list a items
  | false, a, items => begins_tuple a items
theorem drawsA {prog : Program} {w : World} {A : Around} (hh : A.handled = none) : ∀ (b : Bool) (it a : Addr) (hne : a ≠ it) (items : Array Value),
    Draws prog w A it [it, a] items.size (fun i v => items[i]? = some v) (fun i h => itA b h it a i ∧ srcA b h a items)
  | true, it, a, hne, items => .list hh it a hne items
  | false, it, a, hne, items => .tuple hh it a hne items
theorem itA_at {b : Bool} {h h' : Heap} {it a : Addr} {i : Nat} (x : itA b h it a i) (k : ∀ o, h.get? it = some o → h'.get? it = some o) : itA b h' it a i := by
  cases b
  · exact Heap.IsTupleIter.at x k
  · exact Heap.IsListIter.at x k
theorem itA_obj {b : Bool} {h : Heap} {it a : Addr} {i : Nat} (x : itA b h it a i) : ∃ o, h.get? it = some o ∧ ∀ v, o.data ≠ .cell v := by
  cases b <;> (obtain ⟨o, e, _, d⟩ := x; exact ⟨o, e, fun v z => by rw [d] at z; cases z⟩)
theorem itA_new (b : Bool) (h : Heap) (it a : Addr) (e : h.get? it = some (obA b a)) : itA b h it a 0 := by
  cases b <;> exact ⟨_, e, rfl, rfl⟩
section
variable {X : Cx} {pins : List (Addr × Obj)} {σ : St} {H : Hp} {s : Shared} {a : Addr} {xs ys : List V}
theorem srcOf {b : Bool} (I : Inv X pins σ H s) (h : SqK b X.K H a xs) : ∃ its : List Value, Vals xs its ∧ srcA b s.heap a its.toArray ∧ a < s.heap.objs.size := by
  cases b
  · obtain ⟨its, r, p, z⟩ := I.tuple h
    obtain ⟨o, e, _⟩ := id p
    exact ⟨its, r, p, Heap.lt_size e⟩
  · obtain ⟨its, r, p, z⟩ := I.list h
    exact ⟨its, r, p.isList, p.lt⟩
theorem sqk_inj {b : Bool} (I : Inv X pins σ H s) (h : SqK b X.K H a xs) (h' : SqK b X.K H a ys) : xs = ys := by
  cases b
  · exact I.tuple_inj h h'
  · exact I.list_inj h h'
end

def ItE (b : Bool) (K : PySem.W.Frag) (a : Addr) : It :=
  ⟨fun i H => ∃ (xs : List V) (x : V), SqK b K H a xs ∧ xs[i]? = some x, fun i H v H' => ∃ T x, v = .ref T ∧ H T = none ∧ H' = upd H T (.tup [.int (i : Nat), x]) ∧ ∀ xs, SqK b K H a xs → xs[i]? = some x, fun i H => ∃ xs : List V, SqK b K H a xs ∧ i = xs.length⟩
theorem turn_enumA {P : Program} {w : World} {K : PySem.W.Frag} {elts : List Expr} {kk : Nat} {tpos : Pos} (b : Bool) (a e it : Addr) (hea : e ≠ a) (hai : a ≠ it) :
    Turn P w K (.Tuple elts kk tpos) (ItE b K a) [e, it] e (fun i h => (∃ old, IsEnum h e it ((i : Nat) : Int) old) ∧ itA b h it a i ∧ e ≠ it) where
  mem := by simp
  obj := fun i h st c hc => by
    obtain ⟨⟨old, he⟩, hi, _⟩ := st
    have e' : c = e ∨ c = it := by simpa using hc
    rcases e' with z | z
    · rw [z]; exact ⟨_, he, fun v q => nomatch q⟩
    · rw [z]; exact itA_obj hi
  keep := fun i h h' st k => let ⟨⟨old, he⟩, hi, hne⟩ := st; ⟨⟨old, k e (by simp) _ he⟩, itA_at hi fun o q => k it (by simp) o q, hne⟩
  item := by
    intro X hP hw hK hc i pins s σ H E I hf st hg
    subst hP hw hK
    obtain ⟨⟨old, he⟩, hit, hne⟩ := st
    obtain ⟨xs, x, hq, hx⟩ := hg
    obtain ⟨its, rv, p, hz⟩ := srcOf I hq
    obtain ⟨u, hu, ru⟩ := rv.get hx
    have hel : e < s.heap.objs.size := Heap.lt_size he
    have hil : it < s.heap.objs.size := by obtain ⟨_, q, _⟩ := itA_obj hit; exact Heap.lt_size q
    have hlt : i < its.toArray.size := by
      have := rv.length
      have := (List.getElem?_eq_some_iff.mp hx).1
      simp; omega
    refine wpAny_pyNext_enum_itemD (drawsA (prog := X.prog) (w := X.w) (A := X.A.in1) (I.ok.hd hc) b it a hai its.toArray) he ⟨hit, p⟩ hlt hne (by simp [hne, hea]) fun y h' tk hP ho st' hT hsz hk => ?_
    have hy : y = u := by
      have h1 : its.toArray[i]? = some y := hP
      have h2 : its.toArray[i]? = some u := by simpa using hu
      rw [h1] at h2; exact Option.some.inj h2
    subst hy
    refine ⟨_, rfl, wpAny_letOwnedTupleGo_enum (s := { s with heap := h', toks := tk + 1 }) ho fun h'' he' sb => ?_⟩
    have hT2 : h''.get? s.heap.objs.size = some { cls := .type "tuple", data := .seq #[.int i tk, y] } := (sb.2 _ (Nat.ne_of_gt hel)).trans hT
    have new : ObjOk X.prog X.w (upd H s.heap.objs.size (.tup [.int (i : Nat), x])) h'' s.heap.objs.size (.tup [.int (i : Nat), x]) :=
      ⟨by show 2 ≤ sizeLine; decide, [.int i tk, y], .cons ⟨_, rfl⟩ (.cons ru .nil), ⟨_, hT2, rfl, _, rfl⟩⟩
    have I1 : Inv X pins σ (upd H s.heap.objs.size (.tup [.int (i : Nat), x])) { s with heap := h'', toks := tk + 1 } :=
      I.turnedNew (ch := [e, it]) (fun b ob hb q => (sb.2 b (fun z => hb (by simp [z]))).trans (hk b ob (fun z => hb (by simp [z])) (fun z => hb (by simp [z])) q)) hf (Nat.le_refl _) new
    refine ⟨.ref s.heap.objs.size, _, I1, rfl, ⟨_, x, rfl, I.hok.fresh (Nat.le_refl _), rfl, fun ys hy => by rw [sqk_inj I hy hq]; exact hx⟩, ⟨⟨y, ?_⟩, itA_at st'.1 fun o q => (sb.2 it (Ne.symm hne)).trans q, hne⟩, fun b hb => ?_⟩
    · have e1 : ((i + 1 : Nat) : Int) = (i : Int) + 1 := by omega
      rw [e1]; exact he'
    · have hb' : b < s.heap.objs.size := by
        have e' : b = e ∨ b = it := by simpa using hb
        rcases e' with z | z
        · rw [z]; exact hel
        · rw [z]; exact hil
      rw [upd_ne (Nat.ne_of_lt hb')]
      exact (hf b hb).1
  done := by
    intro X hP hw hK hc i pins s σ H E I hf st hg
    subst hP hw hK
    obtain ⟨⟨old, he⟩, hit, hne⟩ := st
    obtain ⟨xs, hq, hx⟩ := hg
    obtain ⟨its, rv, p, hz⟩ := srcOf I hq
    obtain ⟨f0, f1, f2, f3, f4, f5⟩ := hf it (by simp)
    have hl := rv.length
    have e1 : i = its.toArray.size := by simp; omega
    refine wpAny_pyNext_enum_endD (drawsA (prog := X.prog) (w := X.w) (A := X.A.in1) (I.ok.hd hc) b it a hai its.toArray) he (by rw [← e1]; exact ⟨hit, p⟩) fun h' eb => ⟨rfl, I.turned (t' := s.toks) (fun b o hb q => eb b o hb q) f0 f1 f3 f4 f5⟩
  self := fun A i s Q E st h => let ⟨⟨_, he⟩, _⟩ := st; wpAny_pyIter_enum he h
end DL

set_option Elab.async false
set_option linter.all false
set_option maxRecDepth 100000
namespace DL
open PySem PySem.Spec L2
open PyProof.Rows hiding St

def ItZ (b c : Bool) (K : PySem.W.Frag) (a d : Addr) : It :=
  ⟨fun i H => ∃ (xs ys : List V) (x y : V), SqK b K H a xs ∧ SqK c K H d ys ∧ xs[i]? = some x ∧ ys[i]? = some y,
    fun i H v H' => ∃ T x y, v = .ref T ∧ H T = none ∧ H' = upd H T (.tup [x, y]) ∧ (∀ xs, SqK b K H a xs → xs[i]? = some x) ∧ ∀ ys, SqK c K H d ys → ys[i]? = some y,
    fun i H => ∃ xs ys : List V, SqK b K H a xs ∧ SqK c K H d ys ∧ i = min xs.length ys.length⟩
theorem turn_zipA {P : Program} {w : World} {K : PySem.W.Frag} {elts : List Expr} {kk : Nat} {tpos : Pos} {b c : Bool} {a d z TI TO i1 i2 : Addr} (S : ZipSep2 z TI TO i1 i2 [i1, a] [i2, d]) (hai : a ≠ i1) (hdi : d ≠ i2) :
    Turn P w K (.Tuple elts kk tpos) (ItZ b c K a d) [z, TI, TO, i1, i2] z (fun i h => IsZip h z TI TO .none ∧ IsTupOf2 h TI (.ref i1) (.ref i2) ∧ (∃ x y, IsTupOf2 h TO x y) ∧ itA b h i1 a i ∧ itA c h i2 d i) where
  mem := by simp
  obj := fun i h st q hc => by
    obtain ⟨hz, hTI, ⟨x, y, hTO⟩, h1, h2⟩ := st
    have e' : q = z ∨ q = TI ∨ q = TO ∨ q = i1 ∨ q = i2 := by simpa using hc
    rcases e' with r | r | r | r | r
    · rw [r]; exact ⟨_, hz, fun v q => nomatch q⟩
    · rw [r]; exact ⟨_, hTI, fun v q => nomatch q⟩
    · rw [r]; exact ⟨_, hTO, fun v q => nomatch q⟩
    · rw [r]; exact itA_obj h1
    · rw [r]; exact itA_obj h2
  keep := fun i h h' st k => by
    obtain ⟨hz, hTI, ⟨x, y, hTO⟩, h1, h2⟩ := st
    exact ⟨k z (by simp) _ hz, k TI (by simp) _ hTI, ⟨x, y, k TO (by simp) _ hTO⟩, itA_at h1 fun o q => k i1 (by simp) o q, itA_at h2 fun o q => k i2 (by simp) o q⟩
  item := by
    intro X hP hw hK hcl i pins s σ H E I hf st hg
    subst hP hw hK
    obtain ⟨hz, hTI, ⟨x0, y0, hTO⟩, h1, h2⟩ := st
    obtain ⟨xs, ys, x, y, hqx, hqy, hx, hy⟩ := hg
    obtain ⟨its, rv, p, _⟩ := srcOf I hqx
    obtain ⟨its2, rv2, p2, _⟩ := srcOf I hqy
    obtain ⟨u, hu, ru⟩ := rv.get hx
    obtain ⟨u2, hu2, ru2⟩ := rv2.get hy
    have hzl : z < s.heap.objs.size := Heap.lt_size hz
    have l1 : i < its.toArray.size := by
      have := rv.length
      have := (List.getElem?_eq_some_iff.mp hx).1
      simp; omega
    have l2 : i < its2.toArray.size := by
      have := rv2.length
      have := (List.getElem?_eq_some_iff.mp hy).1
      simp; omega
    refine wpAny_pyNext_zipD2_item S (drawsA (prog := X.prog) (w := X.w) (A := X.A.in1) (I.ok.hd hcl) b i1 a hai its.toArray) (drawsA (prog := X.prog) (w := X.w) (A := X.A.in1) (I.ok.hd hcl) c i2 d hdi its2.toArray) hz hTI hTO ⟨h1, p⟩ ⟨h2, p2⟩ l1 l2
      fun x1 x2 h' tk y1 y2 z' TO' s1' s2' hT hsz hk => ?_
    have e1 : x1 = u := by
      have a1 : its.toArray[i]? = some x1 := y1
      have a2 : its.toArray[i]? = some u := by simpa using hu
      rw [a1] at a2; exact Option.some.inj a2
    have e2 : x2 = u2 := by
      have a1 : its2.toArray[i]? = some x2 := y2
      have a2 : its2.toArray[i]? = some u2 := by simpa using hu2
      rw [a1] at a2; exact Option.some.inj a2
    subst e1 e2
    refine ⟨_, rfl, wpAny_letOwnedTupleGo_zip (s := { s with heap := h', toks := tk }) z' fun h'' z'' sb => ?_⟩
    have hT2 : h''.get? s.heap.objs.size = some { cls := .type "tuple", data := .seq #[x1, x2] } := (sb.2 _ (Nat.ne_of_gt hzl)).trans hT
    have new : ObjOk X.prog X.w (upd H s.heap.objs.size (.tup [x, y])) h'' s.heap.objs.size (.tup [x, y]) :=
      ⟨by show 2 ≤ sizeLine; decide, [x1, x2], .cons ru (.cons ru2 .nil), ⟨_, hT2, rfl, _, rfl⟩⟩
    have I1 : Inv X pins σ (upd H s.heap.objs.size (.tup [x, y])) { s with heap := h'', toks := tk } :=
      I.turnedNew (t' := tk) (ch := [z, TI, TO, i1, i2]) (fun c o hb q => (sb.2 c (fun q' => hb (by simp [q']))).trans (hk c o (fun q' => hb (by simp [q'])) (fun q' => hb (by simp [q'])) (fun q' => hb (by simp [q'])) (fun q' => hb (by simp [q'])) q)) hf (Nat.le_refl _) new
    refine ⟨.ref s.heap.objs.size, _, I1, rfl, ⟨_, x, y, rfl, I.hok.fresh (Nat.le_refl _), rfl, fun l hl => by rw [sqk_inj I hl hqx]; exact hx, fun l hl => by rw [sqk_inj I hl hqy]; exact hy⟩, ⟨z'', ?_, ⟨x1, x2, ?_⟩, ?_, ?_⟩, fun c hcm => ?_⟩
    · exact (sb.2 _ S.TIz).trans (hk _ _ S.TIz S.TITO S.TIi1 S.TIi2 hTI)
    · exact (sb.2 _ S.TOz).trans TO'
    · exact itA_at s1'.1 fun o q => (sb.2 _ (Ne.symm S.zi1)).trans q
    · exact itA_at s2'.1 fun o q => (sb.2 _ (Ne.symm S.zi2)).trans q
    · have hlt : c < s.heap.objs.size := by
        have e' : c = z ∨ c = TI ∨ c = TO ∨ c = i1 ∨ c = i2 := by simpa using hcm
        rcases e' with q | q | q | q | q
        · rw [q]; exact hzl
        · rw [q]; exact Heap.lt_size hTI
        · rw [q]; exact Heap.lt_size hTO
        · rw [q]; obtain ⟨_, e1, _⟩ := itA_obj h1; exact Heap.lt_size e1
        · rw [q]; obtain ⟨_, e2, _⟩ := itA_obj h2; exact Heap.lt_size e2
      rw [upd_ne (Nat.ne_of_lt hlt)]
      exact (hf c hcm).1
  done := by
    intro X hP hw hK hcl i pins s σ H E I hf st hg
    subst hP hw hK
    obtain ⟨hz, hTI, ⟨x0, y0, hTO⟩, h1, h2⟩ := st
    obtain ⟨xs, ys, hqx, hqy, hend⟩ := hg
    obtain ⟨its, rv, p, _⟩ := srcOf I hqx
    obtain ⟨its2, rv2, p2, _⟩ := srcOf I hqy
    have l1 := rv.length
    have l2 := rv2.length
    refine wpAny_pyNext_zipD2_end S (drawsA (prog := X.prog) (w := X.w) (A := X.A.in1) (I.ok.hd hcl) b i1 a hai its.toArray) (drawsA (prog := X.prog) (w := X.w) (A := X.A.in1) (I.ok.hd hcl) c i2 d hdi its2.toArray) hz hTI hTO ⟨h1, p⟩ ⟨h2, p2⟩ (by simp; omega) (by simp; omega) (by simp; omega)
      fun h' tk hk => ⟨rfl, I.turnedL (t' := tk) (ch := [z, TI, TO, i1, i2]) (fun c o hb q => hk c o (fun q' => hb (by simp [q'])) (fun q' => hb (by simp [q'])) (fun q' => hb (by simp [q'])) (fun q' => hb (by simp [q'])) q) hf⟩
  self := fun A i s Q E st h => wpAny_pyIter_zip st.1 h

theorem heap_at (a : Addr) (o : Obj) (hf : o.isFreed = false) : ∃ h : Heap, h.get? a = some o := by
  have : ∀ n : Nat, ∃ h : Heap, h.objs.size = n := fun n => by
    induction n with
    | zero => exact ⟨{}, rfl⟩
    | succ n ih => obtain ⟨h, e⟩ := ih; exact ⟨h.push o, by rw [Heap.size_push, e]⟩
  obtain ⟨h, e⟩ := this a
  subst e
  exact ⟨h.push o, Heap.get?_push_size _ hf⟩
theorem raw_inj {h : Heap} {d : Addr} {es es' : Array DictEntry} {ep ep' : Nat} (x : h.DictRaw d es ep) (y : h.DictRaw d es' ep') : es = es' ∧ ep = ep' := by
  obtain ⟨o, e, _, q⟩ := x
  obtain ⟨o', e', _, q'⟩ := y
  rw [e] at e'; cases e'
  rw [q] at q'
  cases q'
  exact ⟨rfl, rfl⟩
theorem dphi_inj {d : Addr} {es es' : Array DictEntry} {ep ep' : Nat} (h : dphi d es ep = dphi d es' ep') : es = es' ∧ ep = ep' := by
  obtain ⟨hp, e⟩ := heap_at d { cls := .type "dict", data := .dict es ep } rfl
  have x : dphi d es ep hp := ⟨_, e, ⟨rfl, rfl, rfl⟩, rfl⟩
  have y := x
  rw [h] at y
  exact raw_inj x y
section
variable {X : Cx} {pins : List (Addr × Obj)} {σ : St} {H : Hp} {s : Shared}
theorem Inv.raw {d : Addr} {es : Array DictEntry} {ep : Nat} (I : Inv X pins σ H s) (h : H d = some (.ext (dphi d es ep))) : s.heap.DictRaw d es ep := (I.hok d _ h).1
end
/-- w: 0 keys, 1 values -/
def ItD (pick : DictEntry → Value) (d : Addr) (es : Array DictEntry) (ep : Nat) : It :=
  ⟨fun i H => H d = some (.ext (dphi d es ep)) ∧ i < es.size ∧ ∃ x, ∃ hi : i < es.size, RelV x (pick es[i]), fun i H v H' => H' = H ∧ ∃ hi : i < es.size, RelV v (pick es[i]), fun i H => H d = some (.ext (dphi d es ep)) ∧ i = es.size⟩
theorem turn_dkeys {P : Program} {w : World} {K : PySem.W.Frag} {tg : Expr} (d it : Addr) (hne : d ≠ it) (es : Array DictEntry) (ep : Nat) : Turn P w K tg (ItD (·.key) d es ep) [it] it (fun i h => h.IsKeyIter it d i es.size ep) where
  mem := by simp
  obj := fun i h st b hb => by
    have e : b = it := by simpa using hb
    subst e
    obtain ⟨o, e, c, q⟩ := st
    exact ⟨o, e, fun v z => by rw [q] at z; cases z⟩
  keep := fun i h h' st k => st.at fun o e => k it (by simp) o e
  item := by
    intro X hP hw hK hc i pins s σ H E I hf st hg
    subst hP hw hK
    obtain ⟨hd, hi, x, _, rx⟩ := hg
    obtain ⟨f0, f1, f2, f3, f4, f5⟩ := hf it (by simp)
    refine wpAny_pyNext_keys_item_raw st (Inv.raw I hd) hi fun h' st' sb => ?_
    have I1 : Inv X pins σ H { s with heap := h' } := I.turned (t' := s.toks) (fun b o hb e => (sb.2 b hb).trans e) f0 f1 f3 f4 f5
    obtain ⟨o, e, c, q⟩ := id st'
    exact ⟨_, rfl, go_of (s := { s with heap := h' }) e c q (by decide) ⟨x, H, I1, rx, ⟨rfl, hi, rx⟩, st', fun b hb => (hf b hb).1⟩⟩
  done := by
    intro X hP hw hK hc i pins s σ H E I hf st hg
    subst hP hw hK
    obtain ⟨hd, hi⟩ := hg
    obtain ⟨f0, f1, f2, f3, f4, f5⟩ := hf it (by simp)
    exact wpAny_pyNext_keys_end_raw (I.ok.hd hc) st (Inv.raw I hd) (by omega) fun h' eb => ⟨rfl, I.turned (t' := s.toks) (fun b o hb e => eb b o hb e) f0 f1 f3 f4 f5⟩
  self := fun A i s Q E st h => wpAny_pyIter_keyiter st h
theorem turn_dvals {P : Program} {w : World} {K : PySem.W.Frag} {tg : Expr} (d it : Addr) (hne : d ≠ it) (es : Array DictEntry) (ep : Nat) : Turn P w K tg (ItD (·.val) d es ep) [it] it (fun i h => h.IsValIter it d i es.size ep) where
  mem := by simp
  obj := fun i h st b hb => by
    have e : b = it := by simpa using hb
    subst e
    obtain ⟨o, e, c, q⟩ := st
    exact ⟨o, e, fun v z => by rw [q] at z; cases z⟩
  keep := fun i h h' st k => st.at fun o e => k it (by simp) o e
  item := by
    intro X hP hw hK hc i pins s σ H E I hf st hg
    subst hP hw hK
    obtain ⟨hd, hi, x, _, rx⟩ := hg
    obtain ⟨f0, f1, f2, f3, f4, f5⟩ := hf it (by simp)
    refine wpAny_pyNext_values_item_raw st (Inv.raw I hd) hi fun h' st' sb => ?_
    have I1 : Inv X pins σ H { s with heap := h' } := I.turned (t' := s.toks) (fun b o hb e => (sb.2 b hb).trans e) f0 f1 f3 f4 f5
    obtain ⟨o, e, c, q⟩ := id st'
    exact ⟨_, rfl, go_of (s := { s with heap := h' }) e c q (by decide) ⟨x, H, I1, rx, ⟨rfl, hi, rx⟩, st', fun b hb => (hf b hb).1⟩⟩
  done := by
    intro X hP hw hK hc i pins s σ H E I hf st hg
    subst hP hw hK
    obtain ⟨hd, hi⟩ := hg
    obtain ⟨f0, f1, f2, f3, f4, f5⟩ := hf it (by simp)
    exact wpAny_pyNext_values_end_raw (I.ok.hd hc) st (Inv.raw I hd) (by omega) fun h' eb => ⟨rfl, I.turned (t' := s.toks) (fun b o hb e => eb b o hb e) f0 f1 f3 f4 f5⟩
  self := fun A i s Q E st h => wpAny_pyIter_valiter st h
def ItDI (d : Addr) (es : Array DictEntry) (ep : Nat) : It :=
  ⟨fun i H => H d = some (.ext (dphi d es ep)) ∧ ∃ k x, ∃ hi : i < es.size, RelV k es[i].key ∧ RelV x es[i].val, fun i H v H' => ∃ T k x, v = .ref T ∧ H T = none ∧ H' = upd H T (.tup [k, x]) ∧ ∃ hi : i < es.size, RelV k es[i].key ∧ RelV x es[i].val,
    fun i H => H d = some (.ext (dphi d es ep)) ∧ i = es.size⟩
theorem turn_ditems {P : Program} {w : World} {K : PySem.W.Frag} {elts : List Expr} {kk : Nat} {tpos : Pos} (d it : Addr) (hne : d ≠ it) (es : Array DictEntry) (ep : Nat) :
    Turn P w K (.Tuple elts kk tpos) (ItDI d es ep) [it] it (fun i h => ∃ ok ov, IsItemIter h it d i es.size ep ok ov) where
  mem := by simp
  obj := fun i h st b hb => by
    have e : b = it := by simpa using hb
    subst e
    obtain ⟨ok, ov, q⟩ := st
    exact ⟨_, q, fun v z => nomatch z⟩
  keep := fun i h h' st k => let ⟨ok, ov, q⟩ := st; ⟨ok, ov, k it (by simp) _ q⟩
  item := by
    intro X hP hw hK hc i pins s σ H E I hf st hg
    subst hP hw hK
    obtain ⟨hd, k, x, hi, rk, rx⟩ := hg
    obtain ⟨ok, ov, he⟩ := st
    have hlt : it < s.heap.objs.size := Heap.lt_size he
    refine wpAny_pyNext_items_item_raw he (Inv.raw I hd) hi fun h' ho hT hz hk => ?_
    refine ⟨_, rfl, wpAny_letOwnedTupleGo_items (s := { s with heap := h' }) ho fun h'' he' sb => ?_⟩
    have hT2 : h''.get? s.heap.objs.size = some { cls := .type "tuple", data := .seq #[es[i].key, es[i].val] } := (sb.2 _ (Nat.ne_of_gt hlt)).trans hT
    have new : ObjOk X.prog X.w (upd H s.heap.objs.size (.tup [k, x])) h'' s.heap.objs.size (.tup [k, x]) :=
      ⟨by show 2 ≤ sizeLine; decide, [es[i].key, es[i].val], .cons rk (.cons rx .nil), ⟨_, hT2, rfl, _, rfl⟩⟩
    have I1 : Inv X pins σ (upd H s.heap.objs.size (.tup [k, x])) { s with heap := h'' } :=
      I.turnedNew (t' := s.toks) (ch := [it]) (fun b ob hb e => (sb.2 b (by simpa using hb)).trans (hk b ob (by simpa using hb) e)) hf (Nat.le_refl _) new
    refine ⟨.ref s.heap.objs.size, _, I1, rfl, ⟨_, k, x, rfl, I.hok.fresh (Nat.le_refl _), rfl, hi, rk, rx⟩, ⟨_, _, he'⟩, fun b hb => ?_⟩
    have e : b = it := by simpa using hb
    rw [e, upd_ne (Nat.ne_of_lt hlt)]
    exact (hf it (by simp)).1
  done := by
    intro X hP hw hK hc i pins s σ H E I hf st hg
    subst hP hw hK
    obtain ⟨hd, hi⟩ := hg
    obtain ⟨f0, f1, f2, f3, f4, f5⟩ := hf it (by simp)
    obtain ⟨ok, ov, he⟩ := st
    exact wpAny_pyNext_items_end_raw (I.ok.hd hc) he (Inv.raw I hd) (by omega) fun h' eb => ⟨rfl, I.turned (t' := s.toks) (fun b ob hb e => eb b ob hb e) f0 f1 f3 f4 f5⟩
  self := fun A i s Q E st h => let ⟨_, _, e⟩ := st; wpAny_pyIter_itemiter e h
end DL

set_option Elab.async false
set_option linter.all false
set_option maxRecDepth 100000
namespace DL
open PySem PySem.Spec L2
open PyProof.Rows hiding St

section
variable {L : Lt} {rd : List Nat} {l : Lv} {f : Ev} {gi : List D → Option (List D)} {σ : St} {H : Hp} {R : It → Hp → Prop} {C : List V → Hp → It → Prop}
theorem tI_args (hC : ∀ P as ds vs H1 xs, Reps L.K L.w P H1 ds vs as → gi ds = some xs → ∃ J gd gv, C vs H1 J ∧ (∀ P', Reps L.K L.w P' H1 (fzs ds) vs [] → Reps L.K L.w P' H1 (fzs gd) gv []) ∧ ItOk L.K L.w J (fzs gd) gv xs) (h : tI L rd l gi σ H R) : tAr L rd l σ H fun vs H1 => ∃ J, C vs H1 J ∧ R J H1 := by
  obtain ⟨ρ, P, vw, q⟩ := h
  refine ⟨ρ, P, vw, ?_⟩
  cases hl : l ρ with
  | vals ds =>
    rw [hl] at q
    intro vs H1 o
    cases hx : gi ds with
    | none => simp only [hx] at q
    | some xs =>
      simp only [hx] at q
      obtain ⟨P1, a1, g1, rr, _⟩ := id o
      obtain ⟨J, gd, gv, c, gh, ok⟩ := hC P1 a1 ds vs H1 xs rr hx
      exact ⟨J, c, q J vs gd gv H1 o gh ok⟩
  | exc c n => rw [hl] at q; exact q
  | stuck => rw [hl] at q; exact q
theorem tI_expr (hC : ∀ P as ds vs H1 xs, Reps L.K L.w P H1 ds vs as → gi ds = some xs → ∃ J gd gv, C vs H1 J ∧ (∀ P', Reps L.K L.w P' H1 (fzs ds) vs [] → Reps L.K L.w P' H1 (fzs gd) gv []) ∧ ItOk L.K L.w J (fzs gd) gv xs) (h : tI L rd (lC f lN) gi σ H R) : tE L rd f σ H fun x H1 => ∃ J, C [x] H1 J ∧ R J H1 := by
  obtain ⟨ρ, P, vw, q⟩ := h
  refine ⟨ρ, P, vw, ?_⟩
  unfold lC lN at q
  cases hf : f ρ with
  | val d =>
    simp only [hf] at q
    intro v H1 o
    cases hx : gi [d] with
    | none => simp only [hx] at q
    | some xs =>
      simp only [hx] at q
      obtain ⟨P1, a1, g1, rr, _⟩ := id o.list
      obtain ⟨J, gd, gv, c, gh, ok⟩ := hC P1 a1 [d] [v] H1 xs rr hx
      exact ⟨J, c, q J [v] gd gv H1 o.list gh ok⟩
  | exc c n => simp only [hf] at q; exact q
  | stuck => simp only [hf] at q
end

section
variable {K : PySem.W.Frag} {w : World}
theorem reps_sing {P : Addr → Prop} {H : Hp} {d : D} {v : V} (h : Reps K w P H (fzs [d]) [v] []) : Rep K w P H d.fz v [] := by
  simp only [fzs] at h
  exact h.one
theorem seq_get {P : Addr → Prop} {H : Hp} {xs : List D} {vs : List V} (h : Reps K w P H (fzs xs) vs []) {i : Nat} {x : D} (hx : xs[i]? = some x) : ∃ v, vs[i]? = some v ∧ Rep K w P H x.fz v [] := by
  obtain ⟨v, bs, a, b, s⟩ := h.get (fzs_get hx)
  have : bs = [] := by cases bs with
    | nil => rfl
    | cons y ys => have := s.subset List.mem_cons_self; cases this
  subst this
  exact ⟨v, a, b⟩
/-- what stands at a frozen list or tuple -/
theorem seqK {P : Addr → Prop} {H : Hp} {d : D} {v : V} (h : Rep K w P H d.fz v []) {xs : List D} (hd : (∃ o, d = .lst o xs) ∨ d = .tup xs) : ∃ a vs, v = .ref a ∧ SqK (match d with | .lst _ _ => true | _ => false) K H a vs ∧ Reps K w P H (fzs xs) vs [] := by
  rcases hd with ⟨o, rfl⟩ | rfl
  · simp only [D.fz] at h
    obtain ⟨a, vs, bs, e, q, rr, s⟩ := h.lst_inv
    have : bs = [] := by cases bs with
      | nil => rfl
      | cons y ys => have := s.subset List.mem_cons_self; cases this
    subst this
    exact ⟨a, vs, e, q, rr⟩
  · simp only [D.fz] at h
    obtain ⟨a, vs, e, q, rr⟩ := h.tup_inv
    exact ⟨a, vs, e, .of q, rr⟩
def seqOf : D → Option (List D)
  | .lst _ xs => some xs
  | .tup xs => some xs
  | _ => none
def isL : D → Bool
  | .lst _ _ => true
  | _ => false
theorem seqK' {P : Addr → Prop} {H : Hp} {d : D} {v : V} (h : Rep K w P H d.fz v []) {xs : List D} (hd : seqOf d = some xs) : ∃ a vs, v = .ref a ∧ SqK (isL d) K H a vs ∧ Reps K w P H (fzs xs) vs [] := by
  cases d with
  | lst o ys => simp only [seqOf, Option.some.injEq] at hd; subst hd; exact seqK h (.inl ⟨o, rfl⟩)
  | tup ys => simp only [seqOf, Option.some.injEq] at hd; subst hd; exact seqK h (.inr rfl)
  | _ => cases hd
/-- .. at one that may be owned -/
theorem seqK0 {P : Addr → Prop} {H : Hp} {d : D} {v : V} {as : List Addr} (h : Rep K w P H d v as) {xs : List D} (hd : seqOf d = some xs) : ∃ a vs, v = .ref a ∧ SqK (isL d) K H a vs := by
  cases d with
  | lst o ys => obtain ⟨a, vs, bs, e, q, _⟩ := h.lst_inv; exact ⟨a, vs, e, q⟩
  | tup ys => obtain ⟨a, vs, e, q, _⟩ := h.tup_inv; exact ⟨a, vs, e, .of q⟩
  | _ => cases hd
abbrev ItS (b : Bool) (K : PySem.W.Frag) (a : Addr) : It := match b with
  | true => Itl K a
  | false => Itt K a
theorem itok_seq {d : D} {xs : List D} {a : Addr} (hd : seqOf d = some xs) : ItOk K w (ItS (isL d) K a) (fzs [d]) [.ref a] xs := by
  intro P H fz rr i
  obtain ⟨a', vs, e, q, rs⟩ := seqK' (reps_sing rr) hd
  cases e
  have ln := rs.length
  rw [fzs_eq, List.length_map] at ln
  revert q
  cases isL d with
  | true =>
    intro q
    refine ⟨fun x hx => ?_, fun hi => ⟨vs, q, by omega⟩⟩
    obtain ⟨v, hv, rv⟩ := seq_get rs hx
    exact ⟨⟨vs, v, q, hv⟩, fun v' H' ⟨e, y⟩ => by subst e; have := y vs q; rw [hv] at this; cases this; exact .plain (.refl _) rv⟩
  | false =>
    intro q
    refine ⟨fun x hx => ?_, fun hi => ⟨vs, q, by omega⟩⟩
    obtain ⟨v, hv, rv⟩ := seq_get rs hx
    exact ⟨⟨vs, v, q, hv⟩, fun v' H' ⟨e, y⟩ => by subst e; have := y vs q; rw [hv] at this; cases this; exact .plain (.refl _) rv⟩
theorem EReps.get {P : Addr → Prop} {H : Hp} : ∀ {es : List DictEntry} {kvs : List (D × D)} {as : List Addr}, EReps K w P H es kvs as → ∀ {i : Nat} {p : D × D}, kvs[i]? = some p → ∃ e kv v bs, es[i]? = some e ∧ RelV kv e.key ∧ Rep K w P H p.1 kv [] ∧ RelV v e.val ∧ Rep K w P H p.2 v bs ∧ bs.Sublist as
  | _, _, _, .enil, i, p, h => by simp at h
  | _, _, _, .econs ik rk rkk hh rv a b, 0, p, h => by
    simp at h
    subst h
    exact ⟨_, _, _, _, rfl, rk, rkk, rv, a, List.sublist_append_left _ _⟩
  | _, _, _, .econs ik rk rkk hh rv a b, i + 1, p, h => by
    obtain ⟨e, kv, v, bs, x, y, z, u, t, s⟩ := b.get (i := i) (by simpa using h)
    exact ⟨e, kv, v, bs, by simpa using x, y, z, u, t, s.trans (List.sublist_append_right _ _)⟩
theorem EReps.length {P : Addr → Prop} {H : Hp} : ∀ {es : List DictEntry} {kvs : List (D × D)} {as : List Addr}, EReps K w P H es kvs as → es.length = kvs.length
  | _, _, _, .enil => rfl
  | _, _, _, .econs ik rk rkk hh rv a b => by simp [b.length]
def dicOf : D → Option (List (D × D))
  | .dic _ kvs => some kvs
  | _ => none
theorem dic0 {P : Addr → Prop} {H : Hp} {d : D} {v : V} {as : List Addr} (h : Rep K w P H d v as) {kvs : List (D × D)} (hd : dicOf d = some kvs) : ∃ a es ep, v = .ref a ∧ H a = some (.ext (dphi a es ep)) ∧ (a == sysModules) = false ∧ es.size = kvs.length := by
  cases d with
  | dic o ys =>
    simp only [dicOf, Option.some.injEq] at hd; subst hd
    cases h with
    | dicF a b c s e n => exact ⟨_, _, _, rfl, a, c, by have := e.length; simpa using this⟩
    | dicO a c s e n => exact ⟨_, _, _, rfl, a, c, by have := e.length; simpa using this⟩
  | _ => cases hd
theorem dicF' {P : Addr → Prop} {H : Hp} {d : D} {v : V} (h : Rep K w P H d.fz v []) {kvs : List (D × D)} (hd : dicOf d = some kvs) : ∃ a es ep, v = .ref a ∧ H a = some (.ext (dphi a es ep)) ∧ EReps K w P H es.toList (fzp kvs) [] := by
  cases d with
  | dic o ys =>
    simp only [dicOf, Option.some.injEq] at hd; subst hd
    simp only [D.fz] at h
    cases h with
    | dicF a b c s e n => exact ⟨_, _, _, rfl, a, e⟩
  | _ => cases hd
theorem sub_nil {bs : List Addr} (s : bs.Sublist []) : bs = [] := by cases bs with
  | nil => rfl
  | cons y ys => have := s.subset List.mem_cons_self; cases this
theorem fzp_get {kvs : List (D × D)} {i : Nat} {p : D × D} (h : kvs[i]? = some p) : (fzp kvs)[i]? = some (p.1, p.2.fz) := by rw [fzp_eq, List.getElem?_map, h]; rfl
/-- one entry of a frozen dict -/
theorem dic_get {P : Addr → Prop} {H : Hp} {d : D} {a : Addr} {es : Array DictEntry} {ep : Nat} (h : Rep K w P H d.fz (.ref a) []) {kvs : List (D × D)} (hd : dicOf d = some kvs) (ha : H a = some (.ext (dphi a es ep))) {i : Nat} {p : D × D} (hp : kvs[i]? = some p) :
    ∃ (hi : i < es.size) (kv v : V), RelV kv es[i].key ∧ Rep K w P H p.1 kv [] ∧ RelV v es[i].val ∧ Rep K w P H p.2.fz v [] := by
  obtain ⟨a', es', ep', e, q, er⟩ := dicF' h hd
  cases e
  rw [ha] at q
  have := dphi_inj (HO.ext.inj (Option.some.inj q))
  obtain ⟨rfl, rfl⟩ := this
  obtain ⟨e, kv, v, bs, h1, h2, h3, h4, h5, h6⟩ := er.get (fzp_get hp)
  have := sub_nil h6
  subst this
  have hi : i < es.size := by have := (List.getElem?_eq_some_iff.mp h1).1; simpa using this
  have : es[i] = e := by rw [Array.getElem?_toList, Array.getElem?_eq_getElem hi] at h1; exact Option.some.inj h1
  rw [← this] at h2 h4
  exact ⟨hi, kv, v, h2, h3, h4, h5⟩
theorem dic_at {P : Addr → Prop} {H : Hp} {d : D} {a : Addr} {es es' : Array DictEntry} {ep ep' : Nat} (h : Rep K w P H d.fz (.ref a) []) {kvs : List (D × D)} (hd : dicOf d = some kvs) : ∃ es ep, H a = some (.ext (dphi a es ep)) ∧ es.size = kvs.length := by
  obtain ⟨a', es', ep', e, q, er⟩ := dicF' h hd
  cases e
  exact ⟨_, _, q, by have := er.length; rw [fzp_eq, List.length_map] at this; simpa using this⟩
end
section
variable {K : PySem.W.Frag} {w : World}
theorem Rep.fz' {P : Addr → Prop} {H : Hp} {d : D} {v : V} (h : Rep K w P H d v []) : Rep K w P H d.fz v [] := h.fz (fun _ z => z) (fun _ z => nomatch z)
end
section
variable {K : PySem.W.Frag} {w : World}
theorem itok_dic {d : D} {kvs : List (D × D)} {a : Addr} {es : Array DictEntry} {ep : Nat} (hd : dicOf d = some kvs) (hz : es.size = kvs.length) {pick : DictEntry → Value} {pk : D × D → D} (hp : (pick = (·.key) ∧ pk = (·.1)) ∨ (pick = (·.val) ∧ pk = (·.2))) :
    ItOk K w (ItD pick a es ep) (fzs [.pin a es ep, d]) [.bl true, .ref a] (kvs.map pk) := by
  intro P H fz rr i
  simp only [fzs, D.fz] at rr
  obtain ⟨r1, r2⟩ := rr.nil_split
  have r2 := r2.one
  cases r1 with
  | pin ha hP =>
    refine ⟨fun x hx => ?_, fun hi => ⟨ha, by rw [hz, hi, List.length_map]⟩⟩
    rw [List.getElem?_map] at hx
    cases hk : kvs[i]? with
    | none => rw [hk] at hx; cases hx
    | some p =>
      rw [hk] at hx
      cases hx
      obtain ⟨hi, kv, v, r3, r4, r5, r6⟩ := dic_get r2 hd ha hk
      rcases hp with ⟨rfl, rfl⟩ | ⟨rfl, rfl⟩
      · refine ⟨⟨ha, hi, kv, hi, r3⟩, fun v' H' ⟨e, hi', y⟩ => ?_⟩
        subst e
        rw [y.inj r3]
        exact .plain (.refl _) r4.fz'
      · refine ⟨⟨ha, hi, v, hi, r5⟩, fun v' H' ⟨e, hi', y⟩ => ?_⟩
        subst e
        rw [y.inj r5]
        exact .plain (.refl _) r6
theorem itok_items {d : D} {kvs : List (D × D)} {a : Addr} {es : Array DictEntry} {ep : Nat} (hd : dicOf d = some kvs) (hz : es.size = kvs.length) :
    ItOk K w (ItDI a es ep) (fzs [.pin a es ep, d]) [.bl true, .ref a] (kvs.map fun p => .tup [p.1, p.2]) := by
  intro P H fz rr i
  simp only [fzs, D.fz] at rr
  obtain ⟨r1, r2⟩ := rr.nil_split
  have r2 := r2.one
  cases r1 with
  | pin ha hP =>
    refine ⟨fun x hx => ?_, fun hi => ⟨ha, by rw [hz, hi, List.length_map]⟩⟩
    rw [List.getElem?_map] at hx
    cases hk : kvs[i]? with
    | none => rw [hk] at hx; cases hx
    | some p =>
      rw [hk] at hx
      cases hx
      obtain ⟨hi, kv, v, r3, r4, r5, r6⟩ := dic_get r2 hd ha hk
      refine ⟨⟨ha, kv, v, hi, r3, r5⟩, fun v' H' ⟨T, k, x, e, hT, e2, hi', y1, y2⟩ => ?_⟩
      subst e e2
      rw [y1.inj r3, y2.inj r5]
      refine .plain (same_new hT) ?_
      simp only [D.fz, fzs]
      exact .tup (as := []) upd_same (.cons (as := []) (bs := []) (r4.fz'.mono (same_new hT) fun _ z => z) (.cons (as := []) (bs := []) (r6.mono (same_new hT) fun _ z => z) .nil))
theorem pin_ok {P : Addr → Prop} {H : Hp} {d : D} {a : Addr} {es : Array DictEntry} {ep : Nat} {kvs : List (D × D)} (hd : dicOf d = some kvs) (ha : H a = some (.ext (dphi a es ep))) (h : Reps K w P H (fzs [d]) [.ref a] []) : Reps K w P H (fzs [.pin a es ep, d]) [.bl true, .ref a] [] := by
  simp only [fzs] at h ⊢
  have h1 := h.one
  refine .cons (as := []) (bs := []) ?_ h
  simp only [D.fz]
  cases d with
  | dic o ys =>
    simp only [D.fz] at h1
    cases h1 with
    | dicF x q s z e n => exact .pin ha q
  | _ => cases hd
end

def giSeq : List D → Option (List D)
  | [d] => match seqOf d with
    | some xs => some xs
    | none => (dicOf d).map fun kvs => kvs.map (·.1)
  | _ => none
section
variable {X : Cx} {W : WX} {tg e : Expr} {rd : List Nat} {f : Ev} {l : Lv}
theorem pi_fresh {pins : List (Addr × Obj)} {σ : St} {H : Hp} {s : Shared} {b : Addr} (I : Inv X pins σ H s) (hle : s.heap.objs.size ≤ b) : FpOk X pins H b := I.fpOk hle (I.hok.fresh hle)
theorem di_seq (he : DE X W e rd f) : DI X W tg e rd (lC f lN) giSeq := by
  refine ⟨fun pins s σ H R I h => ?_⟩
  have h' := tI_expr (C := fun vs H1 J => (∃ b a xs, vs = [.ref a] ∧ SqK b X.K H1 a xs ∧ J = ItS b X.K a) ∨ ∃ a es ep, vs = [.ref a] ∧ (a == sysModules) = false ∧ H1 a = some (.ext (dphi a es ep)) ∧ J = ItD (·.key) a es ep) (fun P as ds vs H1 xs rr hg => by
    unfold giSeq at hg
    split at hg
    · rename_i d
      obtain ⟨v, rfl, r1⟩ := rr.sing
      split at hg
      · rename_i ys hs
        cases hg
        obtain ⟨a, us, rfl, q⟩ := seqK0 r1 hs
        exact ⟨_, [d], [.ref a], .inl ⟨_, a, us, rfl, q, rfl⟩, fun _ h => h, itok_seq hs⟩
      · cases hd : dicOf d with
        | none => rw [hd] at hg; cases hg
        | some kvs =>
          rw [hd] at hg
          cases hg
          obtain ⟨a, es, ep, rfl, q, ns, hz⟩ := dic0 r1 hd
          exact ⟨_, [.pin a es ep, d], [.bl true, .ref a], .inr ⟨a, es, ep, rfl, ns, q, rfl⟩, fun P' h => pin_ok hd q h, itok_dic hd hz (.inl ⟨rfl, rfl⟩)⟩
    · cases hg) h
  refine thn (he.run pins s σ H _ I h') fun v s1 ⟨x, H1, I1, r1, J, c, q⟩ => ?_
  rcases c with ⟨b, a, xs, e, hq, rfl⟩ | ⟨a, es, ep, e, ns, hd, rfl⟩
  · obtain rfl : x = .ref a := by simpa using e
    obtain rfl : v = Value.ref a := r1
    cases b
    · obtain ⟨its, rv, p, hz⟩ := I1.tuple hq
      refine wpAny_pyIter_tuple (show s1.heap.IsTuple a its.toArray from p) ?_
      exact pi_one (tk := s1.toks) I1 _ (turn_tuple a _) ⟨_, Heap.get?_push_size _ rfl, rfl, rfl⟩ q
    · obtain ⟨its, rv, p, hz⟩ := I1.list hq
      refine wpAny_pyIter_list p.isList ?_
      exact pi_one (tk := s1.toks) I1 _ (turn_list a _) ⟨_, Heap.get?_push_size _ rfl, rfl, rfl⟩ q
  · obtain rfl : x = .ref a := by simpa using e
    obtain rfl : v = Value.ref a := r1
    have hm := Inv.raw I1 hd
    refine wpAny_pyIter_dict_raw ns hm ?_
    exact pi_one (tk := s1.toks) I1 _ (turn_dkeys a _ (Nat.ne_of_lt hm.lt_size) es ep) ⟨_, Heap.get?_push_size _ rfl, rfl, rfl⟩ q
/-- range(n), range(m, n) -/
def giRng1 : List D → Option (List D)
  | [.int j] => if -(2 ^ 62) ≤ j ∧ j < 2 ^ 62 then some ((List.range j.toNat).map fun i => .int (i : Nat)) else none
  | _ => none
def giRng2 : List D → Option (List D)
  | [.int i, .int j] => if -(2 ^ 62) ≤ i ∧ i < 2 ^ 62 ∧ -(2 ^ 62) ≤ j ∧ j < 2 ^ 62 then some ((List.range (j - i).toNat).map fun k => .int (i + (k : Nat))) else none
  | _ => none
theorem itok_rng {K : PySem.W.Frag} {w : World} (lo : Int) (n : Nat) (gd : List D) (gv : List V) : ItOk K w (Itr lo n) gd gv ((List.range n).map fun k => .int (lo + (k : Nat))) := by
  intro P H fz rr i
  refine ⟨fun x hx => ?_, fun hi => ?_⟩
  · rw [List.getElem?_map] at hx
    by_cases hi : i < n
    · rw [List.getElem?_range hi] at hx
      cases hx
      exact ⟨hi, fun v H' ⟨e, y⟩ => by subst e y; simp only [D.fz]; exact .plain (.refl _) (.int _)⟩
    · rw [List.getElem?_eq_none (by simp; omega)] at hx; cases hx
  · simp at hi
    show n ≤ i
    omega
theorem di_rng1 {a : Expr} {p pos : Pos} (hg : Gl X "range") (hm : X.mg "range" = none) (ha : DA X W [a] rd l) (hs : starEach [a] X.env = [(false, eval a X.env)] := by rfl) : DI X W tg (.Call (.Name "range" p) [a] [] pos) rd l giRng1 :=
  PIi (pi_range1 hg hm ha hs) fun σ H R h => by
    have := tI_args (C := fun vs H1 J => ∃ j : Int, vs = [.int j] ∧ -(2 ^ 62) ≤ j ∧ j < 2 ^ 62 ∧ J = Itr 0 j.toNat) (fun P as ds vs H1 xs rr hg => by
      unfold giRng1 at hg
      split at hg
      · rename_i j
        obtain ⟨v, rfl, r1⟩ := rr.sing
        obtain ⟨rfl, _⟩ := r1.int_eq
        split at hg
        · rename_i hc
          cases hg
          have := itok_rng (K := X.K) (w := X.w) 0 j.toNat (fzs [.int j]) [.int j]
          simp only [Int.zero_add] at this
          exact ⟨_, _, _, ⟨j, rfl, hc.1, hc.2, rfl⟩, fun _ h => h, this⟩
        · cases hg
      · cases hg) h
    obtain ⟨ρ, P, vw, q⟩ := this
    refine ⟨ρ, P, vw, ?_⟩
    cases hl : l ρ with
    | vals ds => rw [hl] at q; exact fun vs H' o => by obtain ⟨J, ⟨j, e, a, b, rfl⟩, r⟩ := q vs H' o; exact ⟨j, e, a, b, r⟩
    | exc c n => rw [hl] at q; exact q
    | stuck => rw [hl] at q; exact q
theorem di_rng2 {a b : Expr} {p pos : Pos} (hg : Gl X "range") (hm : X.mg "range" = none) (ha : DA X W [a, b] rd l) (hs : starEach [a, b] X.env = [(false, eval a X.env), (false, eval b X.env)] := by rfl) (hs2 : starEach [b] X.env = [(false, eval b X.env)] := by rfl) :
    DI X W tg (.Call (.Name "range" p) [a, b] [] pos) rd l giRng2 :=
  PIi (pi_range2 hg hm ha hs hs2) fun σ H R h => by
    have := tI_args (C := fun vs H1 J => ∃ i j : Int, vs = [.int i, .int j] ∧ (-(2 ^ 62) ≤ i ∧ i < 2 ^ 62 ∧ -(2 ^ 62) ≤ j ∧ j < 2 ^ 62) ∧ J = Itr i (j - i).toNat) (fun P as ds vs H1 xs rr hg => by
      unfold giRng2 at hg
      split at hg
      · rename_i i j
        obtain ⟨v, u, a1, a2, rfl, rfl, r1, r2⟩ := rr.pair
        obtain ⟨rfl, _⟩ := r1.int_eq
        obtain ⟨rfl, _⟩ := r2.int_eq
        split at hg
        · rename_i hc
          cases hg
          exact ⟨_, _, _, ⟨i, j, rfl, hc, rfl⟩, fun _ h => h, itok_rng i (j - i).toNat (fzs [.int i, .int j]) [.int i, .int j]⟩
        · cases hg
      · cases hg) h
    obtain ⟨ρ, P, vw, q⟩ := this
    refine ⟨ρ, P, vw, ?_⟩
    cases hl : l ρ with
    | vals ds => rw [hl] at q; exact fun vs H' o => by obtain ⟨J, ⟨i, j, e, a, rfl⟩, r⟩ := q vs H' o; exact ⟨i, j, e, a, r⟩
    | exc c n => rw [hl] at q; exact q
    | stuck => rw [hl] at q; exact q
/-- enumerate(x) -/
def giEnum : List D → Option (List D)
  | [d] => (seqOf d).map fun xs => xs.zipIdx.map fun p => .tup [.int (p.2 : Nat), p.1]
  | _ => none
theorem itok_enum {K : PySem.W.Frag} {w : World} {d : D} {xs : List D} {a : Addr} (hd : seqOf d = some xs) : ItOk K w (ItE (isL d) K a) (fzs [d]) [.ref a] (xs.zipIdx.map fun p => .tup [.int (p.2 : Nat), p.1]) := by
  intro P H fz rr i
  obtain ⟨a', vs, e, q, rs⟩ := seqK' (reps_sing rr) hd
  cases e
  have ln := rs.length
  rw [fzs_eq, List.length_map] at ln
  refine ⟨fun x hx => ?_, fun hi => ⟨vs, q, by simp at hi; omega⟩⟩
  rw [List.getElem?_map, List.getElem?_zipIdx] at hx
  cases hk : xs[i]? with
  | none => rw [hk] at hx; cases hx
  | some y =>
    rw [hk] at hx
    cases hx
    obtain ⟨v, hv, rv⟩ := seq_get rs hk
    refine ⟨⟨vs, v, q, hv⟩, fun v' H' ⟨T, x, e, hT, e2, hx⟩ => ?_⟩
    subst e e2
    have := hx vs q
    rw [hv] at this
    cases this
    refine .plain (same_new hT) ?_
    simp only [D.fz, fzs, Nat.zero_add]
    exact .tup (as := []) upd_same (.cons (as := []) (bs := []) (.int _) (.cons (as := []) (bs := []) (rv.mono (same_new hT) fun _ z => z) .nil))
theorem di_enum {p pos tpos : Pos} {elts : List Expr} {kk : Nat} (hg : Gl X "enumerate") (hm : X.mg "enumerate" = none) (ha : DA X W [e] rd l) (hs : starEach [e] X.env = [(false, eval e X.env)] := by rfl) :
    DI X W (.Tuple elts kk tpos) (.Call (.Name "enumerate" p) [e] [] pos) rd l giEnum := by
  refine ⟨fun pins s σ H R I h => ?_⟩
  have h' := tI_args (C := fun vs H1 J => ∃ b a xs, vs = [.ref a] ∧ SqK b X.K H1 a xs ∧ J = ItE b X.K a) (fun P as ds vs H1 xs rr hg => by
    unfold giEnum at hg
    split at hg
    · rename_i d
      obtain ⟨v, rfl, r1⟩ := rr.sing
      cases hs : seqOf d with
      | none => rw [hs] at hg; cases hg
      | some ys =>
        rw [hs] at hg
        cases hg
        obtain ⟨a, us, rfl, q⟩ := seqK0 r1 hs
        exact ⟨_, [d], [.ref a], ⟨_, a, us, rfl, q, rfl⟩, fun _ h => h, itok_enum hs⟩
    · cases hg) h
  refine Call_ (ld_blt I hg hm boot_enumerate (PyProof.Rows.callWith_type1 (thn (ha.run pos pins s σ H _ I h') fun us s1 ⟨vs, H1, I1, r1, J, ⟨b, a, xs, ex, hq, eJ⟩, q⟩ => ?_) hs rfl))
  subst ex eJ
  cases r1 with
  | cons r rr =>
    cases rr
    cases r
    obtain ⟨its, rv, p', hz⟩ := srcOf I1 hq
    refine enum1_begins (beginsA b a its.toArray) p' fun h' he hit hsz hk => wpAny_pyIter_enum he ?_
    have I2 : Inv X pins σ H1 { s1 with heap := h' } := I1.kept (t' := s1.toks) hk
    refine ⟨s1.heap.objs.size + 1, [s1.heap.objs.size + 1, s1.heap.objs.size], _, _, H1, rfl, I2, turn_enumA b a (s1.heap.objs.size + 1) s1.heap.objs.size (fun z => absurd (show (s1.heap.objs.size + 1 : Nat) < s1.heap.objs.size from z.symm ▸ hz) (by omega)) (Nat.ne_of_lt hz), ⟨⟨.none, he⟩, itA_new b h' _ a hit, Nat.succ_ne_self _⟩, fun b hb => ?_, q⟩
    have e' : b = s1.heap.objs.size + 1 ∨ b = s1.heap.objs.size := by simpa using hb
    have hle : s1.heap.objs.size ≤ b := by
      rcases e' with z | z
      · rw [z]; exact Nat.le_add_right _ _
      · rw [z]; exact Nat.le_refl _
    exact pi_fresh I1 hle
/-- zip(x, y) -/
def giZip : List D → Option (List D)
  | [d, e] => match seqOf d, seqOf e with
    | some xs, some ys => some (List.zipWith (fun x y => .tup [x, y]) xs ys)
    | _, _ => none
  | _ => none
theorem itok_zip {K : PySem.W.Frag} {w : World} {d d2 : D} {xs ys : List D} {a a2 : Addr} (hd : seqOf d = some xs) (hd2 : seqOf d2 = some ys) : ItOk K w (ItZ (isL d) (isL d2) K a a2) (fzs [d, d2]) [.ref a, .ref a2] (List.zipWith (fun x y => .tup [x, y]) xs ys) := by
  intro P H fz rr i
  simp only [fzs] at rr
  obtain ⟨rr1, rr2⟩ := rr.nil_split
  have rr2 := rr2.one
  obtain ⟨a', vs, e, q, rs⟩ := seqK' rr1 hd
  cases e
  obtain ⟨a', vs2, e, q2, rs2⟩ := seqK' rr2 hd2
  cases e
  have ln := rs.length
  have ln2 := rs2.length
  rw [fzs_eq, List.length_map] at ln ln2
  refine ⟨fun x hx => ?_, fun hi => ⟨vs, vs2, q, q2, by simp at hi; omega⟩⟩
  rw [List.getElem?_zipWith] at hx
  cases hk : xs[i]? with
  | none => rw [hk] at hx; cases hx
  | some y =>
    cases hk2 : ys[i]? with
    | none => rw [hk, hk2] at hx; cases hx
    | some y2 =>
      rw [hk, hk2] at hx
      cases hx
      obtain ⟨v, hv, rv⟩ := seq_get rs hk
      obtain ⟨v2, hv2, rv2⟩ := seq_get rs2 hk2
      refine ⟨⟨vs, vs2, v, v2, q, q2, hv, hv2⟩, fun v' H' ⟨T, x, x2, e, hT, e2, hx, hx2⟩ => ?_⟩
      subst e e2
      have z1 := hx vs q
      rw [hv] at z1
      cases z1
      have z2 := hx2 vs2 q2
      rw [hv2] at z2
      cases z2
      refine .plain (same_new hT) ?_
      simp only [D.fz, fzs]
      exact .tup (as := []) upd_same (.cons (as := []) (bs := []) (rv.mono (same_new hT) fun _ z => z) (.cons (as := []) (bs := []) (rv2.mono (same_new hT) fun _ z => z) .nil))
theorem di_zip {e2 : Expr} {p pos tpos : Pos} {elts : List Expr} {kk : Nat} (hg : Gl X "zip") (hm : X.mg "zip" = none) (ha : DA X W [e, e2] rd l)
    (hs : starEach [e, e2] X.env = (false, eval e X.env) :: starEach [e2] X.env := by rfl) (hpl : (backTo pos (starEach [e2] X.env)).any (·.1) = false := by rfl) :
    DI X W (.Tuple elts kk tpos) (.Call (.Name "zip" p) [e, e2] [] pos) rd l giZip := by
  refine ⟨fun pins s σ H R I h => ?_⟩
  have h' := tI_args (C := fun vs H1 J => ∃ b c a d xs ys, vs = [.ref a, .ref d] ∧ SqK b X.K H1 a xs ∧ SqK c X.K H1 d ys ∧ J = ItZ b c X.K a d) (fun P as ds vs H1 xs rr hg => by
    unfold giZip at hg
    split at hg
    · rename_i d d2
      obtain ⟨v, u, a1, a2, rfl, rfl, r1, r2⟩ := rr.pair
      split at hg
      · rename_i xs ys hs hs2
        cases hg
        obtain ⟨a, us, rfl, q⟩ := seqK0 r1 hs
        obtain ⟨a2, us2, rfl, q2⟩ := seqK0 r2 hs2
        exact ⟨_, [d, d2], [.ref a, .ref a2], ⟨_, _, a, a2, us, us2, rfl, q, q2, rfl⟩, fun _ h => h, itok_zip hs hs2⟩
      · cases hg
    · cases hg) h
  refine Call_ (ld_blt I hg hm PyProof.Rows.boot_zip (PyProof.Rows.callWith_type1 (thn (ha.run pos pins s σ H _ I h') fun us s1 ⟨vs, H1, I1, r1, J, ⟨b, c, a, d, xs, ys, ex, hq, hq2, eJ⟩, q⟩ => ?_) hs hpl))
  subst ex eJ
  cases r1 with
  | cons r rr =>
    cases rr with
    | cons r' rr =>
      cases rr
      cases r
      cases r'
      obtain ⟨its, rv, p1, hz⟩ := srcOf I1 hq
      obtain ⟨its2, rv2, p2, hz2⟩ := srcOf I1 hq2
      refine zip_begins2 (beginsA b a its.toArray) (beginsA c d its2.toArray) p1 p2 fun h' hzip hTI hTO h1 h2 hsz hk => wpAny_pyIter_zip hzip ?_
      have I2 : Inv X pins σ H1 { s1 with heap := h' } := I1.kept (t' := s1.toks) hk
      refine ⟨s1.heap.objs.size + 4, [s1.heap.objs.size + 4, s1.heap.objs.size + 2, s1.heap.objs.size + 3, s1.heap.objs.size, s1.heap.objs.size + 1], _, _, H1, rfl, I2, turn_zipA (b := b) (c := c) (a := a) (d := d) (zip_sep2 (fun x hx => by rw [List.mem_singleton.mp hx]; exact hz) (fun x hx => by rw [List.mem_singleton.mp hx]; exact hz2)) (Nat.ne_of_lt hz) (Nat.ne_of_lt (Nat.lt_succ_of_lt hz2)),
        ⟨hzip, hTI, ⟨_, _, hTO⟩, itA_new b h' _ a h1, itA_new c h' _ d h2⟩, fun x hx => ?_, q⟩
      have e' : x = s1.heap.objs.size + 4 ∨ x = s1.heap.objs.size + 2 ∨ x = s1.heap.objs.size + 3 ∨ x = s1.heap.objs.size ∨ x = s1.heap.objs.size + 1 := by simpa using hx
      have hle : s1.heap.objs.size ≤ x := by
        rcases e' with z | z | z | z | z
        · rw [z]; exact Nat.le_add_right _ _
        · rw [z]; exact Nat.le_add_right _ _
        · rw [z]; exact Nat.le_add_right _ _
        · rw [z]; exact Nat.le_refl _
        · rw [z]; exact Nat.le_add_right _ _
      exact pi_fresh I1 hle
/-- d.values(), d.items() -/
def giVals : List D → Option (List D)
  | [d] => (dicOf d).map fun kvs => kvs.map (·.2)
  | _ => none
def giItems : List D → Option (List D)
  | [d] => (dicOf d).map fun kvs => kvs.map fun p => .tup [p.1, p.2]
  | _ => none
theorem di_vals {apos cpos : Pos} (he : DE X W e rd f) (hbase : attributeBase e "values" X.env (eval e X.env) = eval e X.env := by rfl) (hline : (apos.endLine == cpos.line) = true := by rfl) :
    DI X W tg (.Call (.Attribute e "values" apos) [] [] cpos) rd (lC f lN) giVals := by
  refine ⟨fun pins s σ H R I h => ?_⟩
  have h' := tI_expr (C := fun vs H1 J => ∃ a es ep, vs = [.ref a] ∧ (a == sysModules) = false ∧ H1 a = some (.ext (dphi a es ep)) ∧ J = ItD (·.val) a es ep) (fun P as ds vs H1 xs rr hg => by
    unfold giVals at hg
    split at hg
    · rename_i d
      obtain ⟨v, rfl, r1⟩ := rr.sing
      cases hd : dicOf d with
      | none => rw [hd] at hg; cases hg
      | some kvs =>
        rw [hd] at hg
        cases hg
        obtain ⟨a, es, ep, rfl, q, ns, hz⟩ := dic0 r1 hd
        exact ⟨_, [.pin a es ep, d], [.bl true, .ref a], ⟨a, es, ep, rfl, ns, q, rfl⟩, fun P' h => pin_ok hd q h, itok_dic hd hz (.inr ⟨rfl, rfl⟩)⟩
    · cases hg) h
  refine wpAny_Call_method (T := "dict") (id := "dict.values") hbase rfl hline F.plainAttrs_dict F.slot_dict_values F.type_dict_values (thn (he.run pins s σ H _ I h') fun u s1 ⟨x, H1, I1, rx, J, ⟨a, es, ep, e, ns, hd, eJ⟩, q⟩ => ?_)
  obtain rfl : x = .ref a := by simpa using e
  subst eJ
  obtain rfl : u = Value.ref a := rx
  have hm := Inv.raw I1 hd
  obtain ⟨o, ho, hex, hdat⟩ := id hm
  refine ⟨hm.typeIs, fun _ z => by cases z; exact ⟨o, ho, hex.2.1⟩, ?_⟩
  have I2 : Inv X pins σ H1 { s1 with heap := s1.heap.push { cls := .type "dict_values", data := .fields #[.ref a] } } := I1.kept (t' := s1.toks) fun b ob q => Heap.get?_push_of_some _ q
  have hm2 : (s1.heap.push { cls := .type "dict_values", data := .fields #[.ref a] }).DictRaw a es ep := hm.at fun o e => Heap.get?_push_of_some _ e
  have fin : wpAny (model X.prog X.w) X.A (pyIter (.ref s1.heap.objs.size)) (PIE X pins σ tg R) X.xe { s1 with heap := s1.heap.push { cls := .type "dict_values", data := .fields #[.ref a] } } := by
    refine wpAny_pyIter_values_raw (d := a) ⟨_, Heap.get?_push_size _ rfl, rfl, rfl⟩ hm2 ?_
    exact pi_one (tk := s1.toks) I2 _ (turn_dvals a _ (Nat.ne_of_lt hm2.lt_size) es ep) ⟨_, Heap.get?_push_size _ rfl, rfl, rfl⟩ q
  show wpAny _ _ (callWith cpos (.builtin "dict.values") [.ref a] [] []) _ X.xe s1
  exact method_meetsIn F.slot_dict_values F.entry_dict_values rfl (PySem.evalArgs_none ⟨rfl, hm.typeIs, F.args_dict_values_1 _, _, meets_dict_values_raw a ns, ⟨es, ep, hm⟩, fin⟩)
theorem di_items {apos cpos tpos : Pos} {elts : List Expr} {kk : Nat} (he : DE X W e rd f) (hbase : attributeBase e "items" X.env (eval e X.env) = eval e X.env := by rfl) (hline : (apos.endLine == cpos.line) = true := by rfl) :
    DI X W (.Tuple elts kk tpos) (.Call (.Attribute e "items" apos) [] [] cpos) rd (lC f lN) giItems := by
  refine ⟨fun pins s σ H R I h => ?_⟩
  have h' := tI_expr (C := fun vs H1 J => ∃ a es ep, vs = [.ref a] ∧ (a == sysModules) = false ∧ H1 a = some (.ext (dphi a es ep)) ∧ J = ItDI a es ep) (fun P as ds vs H1 xs rr hg => by
    unfold giItems at hg
    split at hg
    · rename_i d
      obtain ⟨v, rfl, r1⟩ := rr.sing
      cases hd : dicOf d with
      | none => rw [hd] at hg; cases hg
      | some kvs =>
        rw [hd] at hg
        cases hg
        obtain ⟨a, es, ep, rfl, q, ns, hz⟩ := dic0 r1 hd
        exact ⟨_, [.pin a es ep, d], [.bl true, .ref a], ⟨a, es, ep, rfl, ns, q, rfl⟩, fun P' h => pin_ok hd q h, itok_items hd hz⟩
    · cases hg) h
  refine wpAny_Call_method (T := "dict") (id := "dict.items") hbase rfl hline F.plainAttrs_dict F.slot_dict_items F.type_dict_items (thn (he.run pins s σ H _ I h') fun u s1 ⟨x, H1, I1, rx, J, ⟨a, es, ep, e, ns, hd, eJ⟩, q⟩ => ?_)
  obtain rfl : x = .ref a := by simpa using e
  subst eJ
  obtain rfl : u = Value.ref a := rx
  have hm := Inv.raw I1 hd
  obtain ⟨o, ho, hex, hdat⟩ := id hm
  refine ⟨hm.typeIs, fun _ z => by cases z; exact ⟨o, ho, hex.2.1⟩, ?_⟩
  have I2 : Inv X pins σ H1 { s1 with heap := s1.heap.push { cls := .type "dict_items", data := .fields #[.ref a] } } := I1.kept (t' := s1.toks) fun b ob q => Heap.get?_push_of_some _ q
  have hm2 : (s1.heap.push { cls := .type "dict_items", data := .fields #[.ref a] }).DictRaw a es ep := hm.at fun o e => Heap.get?_push_of_some _ e
  have fin : wpAny (model X.prog X.w) X.A (pyIter (.ref s1.heap.objs.size)) (PIE X pins σ (.Tuple elts kk tpos) R) X.xe { s1 with heap := s1.heap.push { cls := .type "dict_items", data := .fields #[.ref a] } } := by
    refine wpAny_pyIter_items_raw (d := a) ⟨_, Heap.get?_push_size _ rfl, rfl, rfl⟩ hm2 ?_
    exact pi_one (tk := s1.toks) I2 _ (turn_ditems a _ (Nat.ne_of_lt hm2.lt_size) es ep) ⟨_, _, Heap.get?_push_size _ rfl⟩ q
  show wpAny _ _ (callWith cpos (.builtin "dict.items") [.ref a] [] []) _ X.xe s1
  exact method_meetsIn F.slot_dict_items F.entry_dict_items rfl (PySem.evalArgs_none ⟨rfl, hm.typeIs, F.args_dict_items_1 _, _, meets_dict_items_raw a ns, ⟨es, ep, hm⟩, fin⟩)
end
end DL

set_option Elab.async false
set_option linter.all false
set_option maxRecDepth 100000
set_option maxHeartbeats 1000000
namespace PySem
namespace WayX
open PySem.W PySem.Calls PyProof.Rows PySem.HandSPX
def iA (p1 p2 : Pos) : Arguments := { posonlyargs := [], args := [{ arg := "self", annotation := none, pos := p1 }, { arg := "at", annotation := none, pos := p2 }], vararg := none, kwonlyargs := [], kw_defaults := [], kwarg := none, defaults := [] }
def iB (q1 q2 q3 q4 q5 q6 q7 q8 q9 q10 : Pos) : List Stmt := [.Expr (.Call (.Attribute (.Call (.Name "super" q1) [] [] q2) "__init__" q3) [.Name "at" q4] [] q5) q6, .Assign [.Attribute (.Name "self" q7) "at" q8] (.Name "at" q9) q10]
def iS : Scope := { kind := .function, names := [(PySem.Str.ofString "self", .local), (PySem.Str.ofString "at", .local), (PySem.Str.ofString "__class__", .free), (PySem.Str.ofString "super", .globalImplicit)], isGenerator := false, isCoroutine := false, more := [] }
/-- what the written part says of the error class nC, at C; D: WayError itself, fI its __init__, cc the cell that names it -/
structure WayTxt (p : Program) (K : Frag) (mg : Str → Option Value) (nC : Str) (C fI D cc : Addr) : Prop where
  gC : mg nC = some (.ref C)
  cls : ∃ nm q N bs bm sn sub ab col dd k0 k1 k2 k3 k5, K.lookup C = some (excClassObj nm q C N bs bm true sn sub ab col dd k0 k1 k2 k3 k5 "ValueError.__new__") ∧ refsVE bm = true
  sa : findIn K (.ref C) "__setattr__" = some (some (.builtin "object.__setattr__"))
  ga : findIn K (.ref C) "__getattribute__" = some (some (.builtin "BaseException.__getattribute__"))
  gg : findIn K (.ref C) "__getattr__" = some none
  noN : findIn K (.ref C) "at" = some none
  iC : findIn K (.ref C) "__init__" = some (some (.ref fI))
  tC : typeIn K (.ref fI) = some (.type "function")
  kC : keepIn K (.ref C) = true
  exC : subIn K (.ref C) (.type "BaseException") = some true
  tyC : typeIn K (.ref C) = some (.type "type")
  hdC : hasDictIn K C = true
  sup : ks_superIn K C D "__init__" = some (some (.builtin "ValueError.__init__"))
  subV : subIn K (.ref C) (.type "ValueError") = some true
  mroD : mroIn K C (.ref D) = some true
  clD : (clsIn K D).isSome = true
  opq : nsIn K cStatics "thirdparty.any" = some none
  noS : mg "super" = none
  top : (p.main.scope.names.lookup ("super" : Str)).isSome = false
  fn : ∃ (oc : Value) (od : Option Addr) (doc pm : Value) (an : Option Addr) (cda : Addr) (ct : Value) (osl : Array (Option Value)) (p1 p2 q1 q2 q3 q4 q5 q6 q7 q8 q9 q10 : Pos) (cl : Value) (cld : Option Addr) (csl : Array (Option Value)) (ccl : Value) (cdd : Option Addr) (vs : Array Value) (ccs : Array (Option Value)) (file : Str) (tf : Tok), (q3.endLine == q5.line) = true ∧
    K.lookup fI = some ⟨oc, od, .func (ksFn "__init__" "WayError.__init__" (iA p1 p2) (iB q1 q2 q3 q4 q5 q6 q7 q8 q9 q10) iS .none .none doc pm an (.ref cda) ct cc), osl⟩ ∧ codeIn K (.ref cda) "WayError.__init__" = true ∧
      K.lookup cc = some ⟨cl, cld, .cell (some (.ref D)), csl⟩ ∧ K.lookup cda = some ⟨ccl, cdd, .fields vs, ccs⟩ ∧ vs[2]? = some (.str file tf) ∧ ((p.main.file : Str) == file) = true
theorem boot_super : bootBuiltins "super" = some (.type "super") := by decide +kernel
theorem one_size (v : Value) : [v].length ≤ sizeLine := by
  rw [sizeLine_eq]
  exact (by decide : 1 ≤ 16777216)
/-- what __init__ leaves of a fresh exception at x -/
structure InitEnd (h h' : Heap) (x C dx t1 : Addr) (v : Value) : Prop where
  keep : ∀ b o, b ≠ x → h.get? b = some o → h'.get? b = some o
  obj : h'.get? x = some { cls := .ref C, dict := some dx, data := .fields #[.ref t1, .none, .none, .none, .bool false, .none] }
  dbig : h.objs.size ≤ dx
  dne : dx ≠ x
  ns : h'.Ns1 dx (fun y => if y = "at" then some v else none)
structure OwnMade (h h' : Heap) (e C d : Addr) (v : Value) : Prop where
  keep : ∀ b o, h.get? b = some o → h'.get? b = some o
  new : h.objs.size ≤ e
  obj : ∃ oe vs, h'.get? e = some oe ∧ oe.cls = .ref C ∧ oe.dict = some d ∧ oe.data = .fields vs ∧ vs[1]? = some .none
  dbig : h.objs.size ≤ d
  dne : d ≠ e
  ns : h'.Ns1 d (fun y => if y = "at" then some v else none)
section
variable {prog : Program} {w : World} {A : Around} {E : Value → Shared → Prop} {R : Result → Shared → Prop} {s : Shared} {K : Frag} {mg mb : Str → Option Value} {C fI D cc : Addr} {nC : Str}
theorem kept_but {K : Frag} {h h' : Heap} {x : Addr} (X : K.In h) (hx : K.lookup x = none) (k : ∀ b o, b ≠ x → h.get? b = some o → h'.get? b = some o) : K.In h' := fun a o e =>
  k a o (fun z => by rw [z, hx] at e; cases e) (X a o e)
theorem way_meth {M : Model} {c : Code} {env : Env} {o e : Expr} {name : Str} {apos pos : Pos} {Q : Value → Shared → Prop} (hline : (apos.endLine == pos.line) = true)
    (h : _root_.PySem.wpAt M A c (attributeBase o name env (eval o env)) (fun ov s₁ => wpAny M A (getMethod ov name (do return (← importBound o env).getD true)) (fun fx s₂ => wpAny M A (callWith pos fx.1 fx.2 (backTo pos (starEach [e] env)) []) Q E s₂) E s₁) E s)
    (hform : methodCallForm ([e].length + ([] : List Keyword).length) (backTo pos (starEach [e] env)) (backToKw pos (keywordEach [] env)) = true := by rfl) :
    _root_.PySem.wpAt M A c (eval (.Call (.Attribute o name apos) [e] [] pos) env) Q E s := by
  rw [arm_eval_Call]
  refine _root_.PySem.wpAt_bind (_root_.PySem.wpAt_mono h (fun ov s₁ h₁ => wpAt_of_wpAny (wpAny_bind (wpAny_standAt ?_))) fun _ _ x => x)
  have hpos : methodCallPos true o env apos pos = pure pos := by unfold methodCallPos; simp [hline]
  unfold methodCall
  rw [hform]
  refine wpAny_bind (wpAny_holding (wpAny_mono h₁ (fun fx s₂ h₂ => ?_) fun _ _ x => x))
  exact wpAny_bind (wpAny_of_eq hpos h₂)
theorem ldC {M : Model} {name : Str} {scope : Scope} {L a c : Addr} {cd : Value} {m : Str → Option Value} {x : Str} {pos : Pos} {v : Value} {Q : Value → Shared → Prop} (hn : s.heap.Ns L m) (hv : m x = some v) (h : Q v s)
    (hk : scope.kind = .function := by rfl) (hl : (ksEnv name scope L a cd c).kindOf x = some .local := by rfl) (hd : (x == ("__debug__" : Str)) = false := by decide) :
    wpAny M A (eval (.Name x pos) (ksEnv name scope L a cd c)) Q E s := wpAny_Name (wpAny_loadName_local hk hl hn hv h) hd
theorem way_init (T : WayTxt prog K mg nC C fI D cc) {x t0 : Addr} {v : Value} (X : K.In s.heap) (hlim : s.heap.NoLimit) (G : s.heap.Ns mainGlobals mg) (Bt : s.heap.Ns builtinsNs mb) (hb : mb "super" = bootBuiltins "super")
    (hx : s.heap.get? x = some (excO C t0)) (hnx : K.lookup x = none) (hroom : A.depth < recursionLimit)
    (hq : ∀ h' tk dx t1, InitEnd s.heap h' x C dx t1 v → R (.ok (.ret .none)) { s with heap := h', toks := tk }) :
    codeAny (model prog w) A (.call (.ref fI) ⟨[.ref x, v], []⟩) R s := by
  obtain ⟨oc, od, doc, pm, an, cda, ct, osl, p1, p2, q1, q2, q3, q4, q5, q6, q7, q8, q9, q10, cl, cld, csl, ccl, cdd, vs, ccs, file, tf, hline, ho, hcd, hcell, hcode, hvs, hfile⟩ := T.fn
  obtain ⟨nm, q, N, bs, bm, sn, sub, ab, col, dd, k0, k1, k2, k3, k5, hC, hbm⟩ := T.cls
  have hcl : clsIn K C = some { name := nm, bases := bs, mro := .ref C :: bm, ns := N, qualname := q, hasDict := true, slotNames := sn, subclasses := sub, abstract := ab, collection := col, hasDel := false } := by unfold clsIn; rw [hC] <;> rfl
  obtain ⟨cdD, hcdD⟩ := Option.isSome_iff_exists.mp T.clD
  obtain ⟨hp, g, d, tk, os⟩ := s
  refine ks_codeAny_call_defAt (fd := ksFn "__init__" "WayError.__init__" (iA p1 p2) (iB q1 q2 q3 q4 q5 q6 q7 q8 q9 q10) iS .none .none doc pm an (.ref cda) ct cc) (body := iB q1 q2 q3 q4 q5 q6 q7 q8 q9 q10) (binds := [("self", .ref x), ("at", v)])
    hroom (X _ _ ho) rfl hlim (codeRec_of X hcd) rfl (BindsTo.of_eq (by first | rfl | with_unfolding_all rfl)) (show ∀ y ∈ iS.names, y.2 ≠ .cell by decide) (by intro y hy; rcases List.mem_cons.mp hy with rfl | hy <;> first | rfl | (rcases List.mem_cons.mp hy with rfl | hy <;> first | rfl | cases hy)) (fun h₁ hn hk₁ => ?_) rfl rfl rfl
  have k₁ : ∀ b o, hp.get? b = some o → h₁.get? b = some o := hk₁
  have X₁ : K.In h₁ := X.keeps k₁
  have hx₁ := k₁ _ _ hx
  obtain ⟨oD, hD1, hD2⟩ : ∃ oD, h₁.get? D = some oD ∧ oD.data = .cls cdD := by
    unfold clsIn at hcdD
    split at hcdD
    · rename_i c d cd' sl ho
      cases hcdD
      exact ⟨_, X₁ _ _ ho, rfl⟩
    · cases hcdD
  have I₁ : InstAt h₁ x (excO C t0) C none := ⟨hx₁, rfl, rfl, trivial⟩
  have hxC : x ≠ C := ks_ne X₁ I₁ hcl
  show _root_.PySem.wpAt _ _ _ (execs _ _) _ _ _
  refine ks_wpAt_execs_cons (ks_wpAt_Expr_any (way_meth hline ?_) rfl rfl)
  refine ks_wpAt_super_base (env := ksEnv "WayError.__init__" iS hp.objs.size fI (.ref cda) cc) rfl rfl (by decide) rfl (X₁ _ _ ho) rfl rfl rfl (X₁ _ _ hcode) rfl hvs hfile T.top ?_
  refine ks_loadName_global rfl rfl (loadGlobal_builtin (env := ksEnv "WayError.__init__" iS hp.objs.size fI (.ref cda) cc) (G.keeps k₁) T.noS (Bt.keeps k₁) (hb.trans boot_super) ⟨rfl, ?_⟩)
  refine wpAny_loadName_free rfl rfl rfl ⟨_, X₁ _ _ hcell, rfl⟩ ?_
  refine wpAny_loadName_local (v := .ref x) rfl rfl hn (by first | rfl | with_unfolding_all rfl | kernel_rfl) ?_
  refine ks_wpAny_isType_cls hD1 hD2 ⟨rfl, ?_⟩
  refine ks_wpAny_call_super hD1 hD2 hx₁ rfl (fun c e => by cases e) (looks_mroIn X₁ T.mroD) (fun h₂ e₂ k₂ => ?_)
  have X₂ : K.In h₂ := X₁.keeps k₂
  have I₂ : InstAt h₂ x (excO C t0) C none := ⟨k₂ _ _ hx₁, rfl, rfl, trivial⟩
  have hsup := T.sup
  unfold ks_superIn at hsup
  rw [hcl, Option.bind_some] at hsup
  refine kxs_getMethod kxs_ValueError e₂ (looks_opaque X₂ T.opq) (l₀ := .ref C :: bm) ((looks_clsIn X₂ hcl).andThen .now) rfl X₂ hsup (I₂.type.andThen (looks_subIn X₂ T.subV)) hxC (by decide) ?_
  -- the wrapper, called
  show wpAny _ _ (callWith _ (.ref h₂.objs.size) [] _ []) _ _ _
  have k₃ : ∀ b o, h₁.get? b = some o → (h₂.push (kxs_mw "ValueError.__init__" x)).get? b = some o := fun b o e => Heap.get?_push_of_some _ (k₂ b o e)
  have hx₃ := k₃ _ _ hx₁
  have hu₃ : (h₂.push (kxs_mw "ValueError.__init__" x)).get? h₂.objs.size = some (kxs_mw "ValueError.__init__" x) := Heap.get?_push_size _ rfl
  have X₃ : K.In (h₂.push (kxs_mw "ValueError.__init__" x)) := X₁.keeps k₃
  have hn₃ : (h₂.push (kxs_mw "ValueError.__init__" x)).Ns hp.objs.size (fun y => ([("self", Value.ref x), ("at", v)] : List (Str × Value)).reverse.lookup y) := by
    obtain ⟨oL, es, ep, hL, r⟩ := hn
    exact ⟨oL, es, ep, k₃ _ _ hL, r⟩
  refine kxs_callWith (i := "ValueError.__init__") (x := x) rfl (evalArgs_plain ?_)
  refine args_cons (e := .Name "at" q4) (rest := []) (pos := q5) (env := ksEnv "WayError.__init__" iS hp.objs.size fI (.ref cda) cc) (ldC (v := v) hn₃ (by first | rfl | with_unfolding_all rfl | kernel_rfl) (args_nil ?_)) rfl
  refine ⟨hu₃, ?_⟩
  show wpAny _ _ (call (.ref h₂.objs.size) [v]) _ _ _
  have FB := F.excBase_ValueError
  refine wpAny_call (codeAny_of_tree ?_)
  show wpAny _ _ (callAny (.ref h₂.objs.size) ⟨[v], []⟩) _ _ _
  simp only [callAny]
  refine wpAny_bind (wpAny_load hu₃ ?_)
  simp only [kxs_mw, show (Value.type "method-wrapper" == Value.type "method" || Value.type "method-wrapper" == Value.type "builtin_function_or_method" || Value.type "method-wrapper" == Value.type "method-wrapper") = true by decide, if_true]
  refine KFB.if_so (by decide) ?_
  refine wpAny_bind (check_bound_init FB.toExcCallFacts (X₃ _ _ hC) hx₃ rfl ?_)
  refine wpAny_bind (wpAny_pure (wpAny_pure ?_))
  refine ⟨plainId_quiet FB.init.plain _, codeAny_builtin FB.initEntry ?_⟩
  refine exc_init_tree (cls := .ref C) (t0 := t0) (dv := none) (c2 := .none) (c3 := .none) (b4 := .bool false) hx₃ (one_size v) fun h₄ k₄ hx₄ ht₄ => ?_
  -- self.at = at
  have kL : hp.objs.size ≠ x := Nat.ne_of_gt (Heap.lt_size hx)
  have hn₄ : h₄.Ns hp.objs.size (fun y => ([("self", Value.ref x), ("at", v)] : List (Str × Value)).reverse.lookup y) := by
    obtain ⟨oL, es, ep, hL, r⟩ := hn₃
    exact ⟨oL, es, ep, k₄ _ _ kL hL, r⟩
  have X₄ : K.In h₄ := kept_but X₃ hnx k₄
  show _root_.PySem.wpAt _ _ _ (execs _ _) _ _ _
  refine ks_wpAt_execs_cons (wpAt_of_wpAny (plainObj_wpAny_Assign_Attribute ?_))
  refine ldC (v := v) hn₄ (by first | rfl | with_unfolding_all rfl | kernel_rfl) (ldC (v := .ref x) hn₄ (by first | rfl | with_unfolding_all rfl | kernel_rfl) ?_)
  refine set_plain X₄ (ox := excO C (h₂.push (kxs_mw "ValueError.__init__" x)).objs.size) (od := none) ⟨hx₄, rfl, rfl, trivial⟩ T.sa ?_
  refine exc_osa X₄ hx₄ hcl (show refsVE (.ref C :: bm) = true from hbm) rfl T.noN (fun h₅ tk₅ dx k₅ dn dne hx₅ hn₅ => ?_)
  show _root_.PySem.wpAt _ _ _ (execs _ _) _ _ _
  have z : hp.objs.size < h₁.objs.size := hn.lt
  have big : hp.objs.size ≤ dx := by
    refine Nat.le_trans (Nat.le_of_lt hn₄.lt) dn
  refine wpAt_of_wpAny (wpAny_execs_nil (hq h₅ tk₅ dx _ ⟨fun b o hb e => k₅ b o hb (k₄ b o hb (k₃ b o (k₁ b o e))), hx₅, big, dne, hn₅⟩))
theorem way_made (T : WayTxt prog K mg nC C fI D cc) {v : Value} (X : K.In s.heap) (hlim : s.heap.NoLimit) (G : s.heap.Ns mainGlobals mg) (Bt : s.heap.Ns builtinsNs mb) (hb : mb "super" = bootBuiltins "super") (hroom : A.depth + 1 < recursionLimit)
    (hq : ∀ h' tk e d, OwnMade s.heap h' e C d v → R (.ok (.ret (.ref e))) { s with heap := h', toks := tk }) :
    codeAny (model prog w) A (.call (.ref C) ⟨[v], []⟩) R s := by
  obtain ⟨nm, q, N, bs, bm, sn, sub, ab, col, dd, k0, k1, k2, k3, k5, hC, hbm⟩ := T.cls
  obtain ⟨hp, g, dr, tk, os⟩ := s
  have k : ∀ b o, hp.get? b = some o → ((hp.push (kdv_tup [v])).push (excO C hp.objs.size)).get? b = some o := fun b o e => Heap.get?_push_of_some _ (Heap.get?_push_of_some _ e)
  have hget : ((hp.push (kdv_tup [v])).push (excO C hp.objs.size)).get? (hp.objs.size + 1) = some (excO C hp.objs.size) := by heap_get
  have hnx : K.lookup (hp.objs.size + 1) = none := by
    cases e : K.lookup (hp.objs.size + 1) with
    | none => rfl
    | some o =>
      have z : hp.get? (hp.objs.size + 1) = some o := X _ _ e
      exact absurd (Nat.lt_of_succ_lt (Heap.lt_size z)) (Nat.lt_irrefl _)
  refine call_own F.excBase_ValueError (fun X => refsVE_contains X bm hbm) (X _ _ hC) (looks_findIn X T.iC) (fun self => bind_fn X self T.tC) (one_size v) ?_
  refine way_init (s := ⟨(hp.push (kdv_tup [v])).push (excO C hp.objs.size), g, dr, tk, os⟩) T (X.keeps k) (hlim.keeps k) (G.keeps k) (Bt.keeps k) hb hget hnx ?_ fun h' tk' dx t1 ⟨k', hx, dn, dne, hns⟩ => ?_
  · show A.depth + 1 < recursionLimit
    exact hroom
  · have old : ∀ b o, hp.get? b = some o → h'.get? b = some o := fun b o e => k' b o (Nat.ne_of_lt (Nat.lt_succ_of_lt (Heap.lt_size e))) (k b o e)
    have z : hp.objs.size + 1 + 1 ≤ dx := by
      first
        | (simpa only [Heap.size_push] using dn)
        | exact dn
        | (have q := dn; rw [Heap.size_push, Heap.size_push] at q; exact q)
    exact ⟨rfl, hq h' tk' (hp.objs.size + 1) dx ⟨old, Nat.le_succ _, ⟨_, _, hx, rfl, rfl, rfl, rfl⟩, Nat.le_trans (Nat.le_trans (Nat.le_succ _) (Nat.le_succ _)) z, dne, hns⟩⟩
end
end WayX
end PySem

set_option Elab.async false
set_option linter.all false
set_option maxRecDepth 100000
set_option maxHeartbeats 1000000
namespace L2
open PySem PySem.Spec PyProof.Rows
section
variable {X : Cx} {C fI D cc : Addr} {nC : Str}
/-- X(e), X an own error class below WayError -/
def tMkWay (C : Addr) (ta : TA) : St → Hp → XK → Prop := fun σ H Q => ta σ H fun vs H1 => ∃ v, vs = [v] ∧ ∀ d, H1 d = none → Q (.ref C) (some d) (upd H1 d (.xd [(("at" : Str), v)]))
theorem relO_way {v : V} {v' : Value} (r : RelV v v') (f : Str) : RelO (List.lookup f [(("at" : Str), v)]) (if f = "at" then some v' else none) := by
  by_cases hw : f = "at"
  · subst hw
    rw [if_pos rfl]
    have q : List.lookup ("at" : Str) [(("at" : Str), v)] = some v := by simp [List.lookup]
    rw [q]
    exact r
  · rw [if_neg hw]
    have qw : (f == ("at" : Str)) = false := by simpa using hw
    have q2 : List.lookup f [(("at" : Str), v)] = none := by simp [List.lookup, qw]
    rw [q2]
    trivial
theorem pmk_way {a : Expr} {ta : TA} {p pos : Pos} {k : Nat} (T : PySem.WayX.WayTxt X.prog X.K X.mg nC C fI D cc) (hr : Room (k + 1) X.A) (ha : PA X [a] ta) (hg : Gl X nC) (hd : (nC == ("__debug__" : Str)) = false)
    (he : starEach (a :: []) X.env = (false, eval a X.env) :: starEach [] X.env := by rfl) (hpl : (backTo pos (starEach [] X.env)).any (·.1) = false := by rfl) :
    PMk X (.Call (.Name nC p) [a] [] pos) (tMkWay C ta) := by
  intro pins s σ H Q I h
  refine wpAny_Call_Name_kw (ld_glob I hg T.gC ?_ hd)
  refine PySem.W.callWith_K (h₀ := X.base) I.ok.mod.kin T.kC (thn (ha.run pos pins s σ H _ I h) fun us s1 hh => ?_) he hpl
  obtain ⟨vs, H1, I1, r1, v, ev, q1⟩ := hh
  subst ev
  refine ⟨I1.kIn, ?_⟩
  cases r1 with
  | cons rv rn =>
    rename_i v' us'
    cases rn
    show wpAny _ _ (call (.ref C) [v']) _ _ _
    have hlim := I1.nolimit
    obtain ⟨mb, hb1, hb2⟩ := I1.ok.mod.blt
    have G := I1.ok.mod.glob.keeps I1.bk
    have Bt := hb1.keeps I1.bk
    obtain ⟨hp, g, dr, tk, os⟩ := s1
    refine wpAny_call (PySem.WayX.way_made T I1.kIn hlim G Bt (hb2 _ (by decide)) (by have := hr.dp; omega) fun h' tk' e d M => ?_)
    show MkP X pins σ Q (.ref e) ⟨h', g, dr, tk', os⟩
    obtain ⟨oe, fv, hoe, hc, hd, hdat, h1⟩ := M.obj
    have hns := M.ns
    obtain ⟨G', g1, g2⟩ := restrict h' fun b => decide (b ≠ e)
    have gk : ∀ b, b ≠ e → G'.get? b = h'.get? b := fun b hb => g1 b (decide_eq_true hb)
    have ge : G'.get? e = none := g2 e (by simp)
    have old : ∀ b o, hp.get? b = some o → G'.get? b = some o := fun b o q => (gk b (Nat.ne_of_lt (Nat.lt_of_lt_of_le (Heap.lt_size q) M.new))).trans (M.keep b o q)
    have ob : ObjOk X.prog X.w (upd H1 d (.xd [(("at" : Str), v)])) G' d (.xd [(("at" : Str), v)]) :=
      ⟨_, hns.at (fun o q => (gk d M.dne).trans q), fun f => relO_way rv f⟩
    have J : Inv X pins σ (upd H1 d (.xd [(("at" : Str), v)])) ⟨G', g, dr, tk', os⟩ := I1.laid (t' := tk') old M.dbig ob
    refine ⟨e, oe, fv, ⟨G', g, dr, tk', os⟩, _, .ref C, some d, rfl, J, fun b o q => ?_, ge, hoe, ⟨hc, hd⟩, hdat, h1, ?_, rfl, I1.bare, raises_own T.exC T.tyC, q1 d (I1.hok.fresh M.dbig)⟩
    · by_cases hb : b = e
      · have q' : G'.get? b = some o := q
        rw [hb, ge] at q'; cases q'
      · exact (gk b hb).symm.trans q
    · rw [upd_ne (Ne.symm M.dne)]
      exact I1.hok.fresh M.new

def wAsM (K : PySem.W.Frag) (Wout : WX) (D : Ends) : List (Value × Nat × (Addr → Value → Option Addr → TS)) → WX
  | [] => Wout
  | (c, i, ts) :: r => fun cls d σ H => ∃ b, PySem.W.exmOne K cls c = some b ∧ (b = true → ∀ a, H a = none → ts a cls d { nx := fun σ' H' => D.nx (σ'.set i none) H', rt := D.rt, bk := fun σ' H' => D.bk (σ'.set i none) H', ct := fun σ' H' => D.ct (σ'.set i none) H' } (σ.set i (some (.ref a))) H) ∧
      (b = false → wAsM K Wout D r cls d σ H)
inductive HdsAs (X : Cx) : List ExceptHandler → List (Value × Nat × (Addr → Value → Option Addr → TS)) → Prop
  | nil : HdsAs X [] []
  | cons {x n : Str} {c : Value} {i : Nat} {ts : Addr → Value → Option Addr → TS} {b₀ : Stmt} {suite : List Stmt} {np pos' : Pos} {hds : List ExceptHandler} {l : List (Value × Nat × (Addr → Value → Option Addr → TS))} (hi : X.N[i]? = some n) (hln : X.env.kindOf n = some .local) (hc : Names X x c)
      (hsu : ∀ (a : Addr) (oe : Obj) (cls : Value) (d : Option Addr) (pn : List (Addr × Obj)), Zc cls d oe → (∃ vs, oe.data = .fields vs) → PSs (X.suite a ((a, oe) :: pn)) (b₀ :: suite) (ts a cls d)) (r : HdsAs X hds l) :
      HdsAs X (.ExceptHandler (some (.Name x np)) (some n) (b₀ :: suite) pos' :: hds) ((c, i, ts) :: l)
theorem ps_try_asM {body : List Stmt} {h₀ : ExceptHandler} {hds : List ExceptHandler} {l : List (Value × Nat × (Addr → Value → Option Addr → TS))} {pos : Pos} {tb : WX → TS} {Wout : WX} (hs : X.stack = X.env :: X.outer) (hf : X.env.frame = some X.env.locals) (hN : X.N.Nodup) (tk : Takes X Wout)
    (hb : ∀ (W : WX) (pn : List (Addr × Obj)) (xe : Value → Shared → Prop), Takes (X.tr pn xe) W → PassesOwn (model X.prog X.w) X.A X.env xe → PSs (X.tr pn xe) body (tb W))
    (hh : HdsAs X (h₀ :: hds) l) : PS X (.Try body (h₀ :: hds) [] [] pos) (fun D σ H => tb (wAsM X.K Wout D l) D σ H) := by
  refine ⟨fun pins s σ H D I h => ?_⟩
  have ok := I.ok
  have hfr : X.A.frames = some (X.env :: X.outer) := by rw [ok.frames, hs]
  refine wpAny_Try_except ?_
  refine wpAny_mono ((hb (wAsM X.K Wout D l) (X.pn ++ pins) (fun e s₁ => wpAny (model X.prog X.w) X.A (noteFrame e X.env) (fun _ s₂ => wpAny (model X.prog X.w) X.A (setFlight e none) (fun _ s₃ =>
    wpAny (model X.prog X.w) X.A (handleBy e X.env (h₀ :: hds)) (SP X pins D) X.xe s₃) X.xe s₂) X.xe s₁) (fun u s' xx => ?_) PassesOwn.looking).run [] s σ H D (I.toTry _) h) (fun f s1 hsp => ?_) (fun e s1 he => he)
  · -- the catch
    obtain ⟨a, B, sI, pins', σ', H', cls, d, rfl, J', nb, up, sky, na, os, ag, w⟩ := xx
    have J : Inv X pins σ' H' sI := J'.ofTry ok
    have sky' : Sky B (X.env :: X.outer) a (Zc cls d) X.env.locals s'.heap := by rw [← hs]; exact sky
    show wpAny (model X.prog X.w) X.A (noteFrame (.ref a) X.env) _ _ _
    refine Sky.land Zc.steady hfr hf sky' fun h3 fl3 up3 => ?_
    have J3 : Inv X pins σ' H' { s' with heap := h3 } := J.landed nb fl3.1 (up.trans up3) os ag
    obtain ⟨oe3, vs3, he3, hz3, hd3⟩ := fl3.there
    have notFr : ∀ {h : Heap} {o : Obj} {vs : Array Value}, h.FunFrames B (X.env :: X.outer) → h.get? a = some o → o.data = .fields vs → a ∉ frs (X.env :: X.outer) := fun {h o vs} ff e dd hm => by
      obtain ⟨_, o', e', hnf⟩ := ff.mem hm
      rw [e] at e'; cases e'
      exact hnf _ dd
    have nfr := notFr fl3.2.2.1 he3 hd3
    have nL : a ≠ X.env.locals := fun z => nfr (List.mem_filterMap.mpr ⟨X.env, List.mem_cons_self, by rw [hf, z]⟩)
    have nF : a ∉ X.fs := fun hm => by
      obtain ⟨e, he, q⟩ := List.mem_filterMap.mp hm
      exact nfr (List.mem_filterMap.mpr ⟨e, List.mem_cons_of_mem _ he, q⟩)
    have S3 := J3.suite he3 hd3 na nL nF
    have go : ∀ {hds' : List ExceptHandler} {l' : List (Value × Nat × (Addr → Value → Option Addr → TS))}, HdsAs X hds' l' → wAsM X.K Wout D l' cls d σ' H' →
        wpAny (model X.prog X.w) X.A (handleBy (.ref a) X.env hds') (SP X pins D) X.xe { s' with heap := h3 } := by
      intro hds' l' hk
      induction hk with
      | nil =>
        intro w
        refine wpAny_handleBy_nil ?_
        obtain ⟨k1, k2, k3, oe, vs, T, oT, ts', he, hz, hd, h1, hr⟩ := id fl3
        unfold PySem.passOn
        refine wpAny_bind (wpAny_field he hd h1 ?_)
        rw [if_neg (show ¬ ((Value.ref T == Value.none) = true) from by simp)]
        have fin : wpAny (model X.prog X.w) X.A (setFlight (.ref a) X.env.frame) (fun _ s4 => wpAny (model X.prog X.w) X.A (throw (.ref a) : Sem Flow) (SP X pins D) X.xe s4) X.xe { s' with heap := h3 } := by
          rw [hf]
          refine HandSPX.setFlight_upZ fl3 fun h4 hh4 up4 => wpAny_throw (tk _ _ ?_)
          exact ⟨a, B, sI, pins, σ', H', cls, d, rfl, J, nb, (up.trans up3).trans up4, .inr (.inr (by rw [hs]; exact hh4)), na, os, ag, w⟩
        first
          | exact wpAny_bind (wpAny_pure (wpAny_bind fin))
          | exact wpAny_bind fin
      | @cons x n c i ts b₀ suite np pos' hds2 l2 hi hln hc hsu r ih =>
        intro w
        obtain ⟨b, hb1, hyes, hno⟩ := w
        have hloc : Loc X.env.scope n := .inl hln
        refine wpAny_handleBy_cons (codeAny_handlers_test ?_) (by intro q; cases q)
        have LT : PySem.W.Looks (model X.prog X.w) h3 (typeOf (.ref a)) cls := fun A Q E s k q => wpAny_typeOf_ref (k _ _ he3) (by rw [hz3.1]; exact q)
        have LM := PySem.W.exm_one (M := model X.prog X.w) (J3.kIn) LT hb1
        have test : ∀ {Q : Value → Shared → Prop} {E : Value → Shared → Prop}, Q c { s' with heap := h3 } → wpAny (model X.prog X.w) (X.A.mark (some (.ref a))) (eval (.Name x np) X.env) Q E { s' with heap := h3 } := fun {Q E} q => by
          obtain ⟨hg, hdbg, hm | ⟨hm, hv, hnn⟩⟩ := hc
          · exact ld_glob (X := X.suite a ((a, oe3) :: (X.pn ++ pins))) S3 hg hm q hdbg
          · exact ld_blt (X := X.suite a ((a, oe3) :: (X.pn ++ pins))) S3 hg hm hv q hnn hdbg
        refine test (LM.here ?_)
        cases b with
        | true =>
          refine codeAny_handlers_suite_as ?_
          refine HandSPX.lands_againZ fl3 fun h4 fl4 up4 => ?_
          have J4 : Inv X pins σ' H' { s' with heap := h4 } := J.landed nb fl4.1 ((up.trans up3).trans up4) os ag
          obtain ⟨oe4, vs4, he4, hz4, hd4⟩ := fl4.there
          have S4 := J4.suite he4 hd4 na nL nF
          refine store_ok (X := X.suite a ((a, oe4) :: (X.pn ++ pins))) (v := .ref a) S4 hN hi hloc rfl (fun s5 S5 => ?_) (.inr hln)
          refine wpAny_mono ((hsu a oe4 cls d (X.pn ++ pins) hz4 ⟨_, hd4⟩).run [] s5 _ H' _ S5 (hyes rfl a na)) (fun f s6 hsp => ?_) (fun _ _ z => False.elim z)
          have end_ : ∀ {σ6 : St} {H6 : Hp} {Q : Shared → Prop}, Inv (X.suite a ((a, oe4) :: (X.pn ++ pins))) [] σ6 H6 s6 → (∀ s7, Inv X pins (σ6.set i none) H6 s7 → Q s7) →
              wpAny (model X.prog X.w) X.A (do bindName X.env n .none; unbindBehindTheSuite X.env n pos') (fun _ s7 => Q s7) X.xe s6 := fun {σ6 H6 Q} S6 hq => gone_ok (S6.unsuite ok) hN hi hln hq
          cases f with
          | next =>
            obtain ⟨σ6, H6, S6, q6⟩ := hsp
            exact end_ S6 fun s7 J7 => ⟨_, _, J7, q6⟩
          | brk =>
            obtain ⟨σ6, H6, S6, q6⟩ := hsp
            exact end_ S6 fun s7 J7 => ⟨_, _, J7, q6⟩
          | cont =>
            obtain ⟨σ6, H6, S6, q6⟩ := hsp
            exact end_ S6 fun s7 J7 => ⟨_, _, J7, q6⟩
          | ret u =>
            obtain ⟨v6, σ6, H6, S6, r6, q6⟩ := hsp
            exact end_ S6 fun s7 J7 => ⟨_, _, _, J7, r6, q6⟩
        | false =>
          show wpAny _ X.A (handleBy (.ref a) X.env hds2) _ _ _
          exact ih (hno rfl)
    exact go hh w
  · cases f with
    | next =>
      obtain ⟨σ', H', J', q⟩ := hsp
      exact wpAny_execs_nil ⟨σ', H', J'.ofTry ok, q⟩
    | brk =>
      obtain ⟨σ', H', J', q⟩ := hsp
      exact ⟨σ', H', J'.ofTry ok, q⟩
    | cont =>
      obtain ⟨σ', H', J', q⟩ := hsp
      exact ⟨σ', H', J'.ofTry ok, q⟩
    | ret u =>
      obtain ⟨v, σ', H', J', r, q⟩ := hsp
      exact ⟨v, σ', H', J'.ofTry ok, r, q⟩
end
end L2

namespace DL
open PySem PySem.Spec L2
open PyProof.Rows hiding St
def sRaise (c : Str) (f : Ev) : Sv := fun ρ => match f ρ with
  | .val (.int n) => .exc c n ρ
  | .exc c n => .exc c n ρ
  | _ => .stuck
section
variable {X : Cx} {B : Fx} {rd : List Nat} {f : Ev} {k : Nat}
theorem ds_raise {nC : Str} {C fI Dw cc : Addr} {a : Expr} {p pos pos2 : Pos} (dx : Dx X B.L.W (k + 1)) (hL : B.L = lt X B.L.W) (T : PySem.WayX.WayTxt X.prog X.K X.mg nC C fI Dw cc) (ha : PE X a (tE B.L rd f)) (hg : Gl X nC) (hd : (nC == ("__debug__" : Str)) = false := by decide)
    (he : starEach (a :: []) X.env = (false, eval a X.env) :: starEach [] X.env := by rfl) (hpl : (backTo pos (starEach [] X.env)).any (·.1) = false := by rfl) :
    DS X B (.Raise (some (.Call (.Name nC p) [a] [] pos)) none pos2) (sRaise nC f) := by
  refine PSi (ps_raise dx.calm dx.tk (pmk_way T dx.rm (pa_cons ha pa_nil he) hg hd he hpl)) fun D σ H ⟨ρ, fr, fvs, r, q⟩ => ?_
  show tMkWay C _ σ H _
  obtain ⟨Q', vw, kk⟩ := r.view rd
  refine ⟨ρ, Q', vw, ?_⟩
  unfold sRaise at q
  cases hf : f ρ with
  | val d =>
    rw [hf] at q
    cases d with
    | int n =>
      intro v H1 o
      have e1 := o.same
      obtain ⟨_, _, _, rr, _⟩ := o
      cases rr
      refine ⟨.int n, rfl, fun d hd => q _ _ σ _ ((r.same e1).same (same_new hd)) ⟨C, d, ?_, rfl, rfl, upd_same⟩⟩
      rw [hL]
      exact T.gC
    | _ => exact q.elim
  | exc c n => rw [hf] at q; exact fun cls d H' e' x => q cls d σ H' (r.same e') x
  | stuck => rw [hf] at q; exact q

/-- a class that an own error may have -/
structure WayCls (K : PySem.W.Frag) (mg : Str → Option Value) (c : Str) (C : Addr) : Prop where
  gC : mg c = some (.ref C)
  xf : XfC K C
  noN : PySem.W.findIn K (.ref C) "at" = some none
/-- clause r is the first that catches an error of the class at C -/
def catchOk (K : PySem.W.Frag) (C : Addr) : List Value → Option Nat → Prop
  | [], none => True
  | [], some _ => False
  | c :: _, some 0 => PySem.W.exmOne K (.ref C) c = some true
  | c :: l, some (k + 1) => PySem.W.exmOne K (.ref C) c = some false ∧ catchOk K C l (some k)
  | c :: l, none => PySem.W.exmOne K (.ref C) c = some false ∧ catchOk K C l none
def sTry (F : Sv) (tbl : List (Str × Option Nat)) (sus : List (Nat × (Int → D))) : Sv := fun ρ => match F ρ with
  | .exc c n ρ1 => (match tbl.lookup c with
    | some (some k) => (match sus[k]? with
      | some (i, su) => if i < ρ1.length then .ret (su n) else .stuck
      | none => .stuck)
    | some none => .exc c n ρ1
    | none => .stuck)
  | r => r
/-- a suite that returns su of the error's number -/
def tSu (X : Cx) (i : Nat) (su : Int → D) (a : Addr) (cls : Value) (d : Option Addr) : TS := fun D σ H => ∃ C dd n, cls = .ref C ∧ XfC X.K C ∧ PySem.W.findIn X.K (.ref C) "at" = some none ∧ d = some dd ∧ H dd = some (.xd [(("at" : Str), .int n)]) ∧ σ[i]? = some (some (.ref a)) ∧
  ∃ P, Fz P H ∧ ∀ v H', Out X.K X.w P [] H H' (su n) v → D.rt v H'
/-- the clauses: class, slot, suite -/
inductive HdsD (X : Cx) : List ExceptHandler → List (Value × Nat × (Int → D)) → Prop
  | nil : HdsD X [] []
  | cons {x n : Str} {c : Value} {i : Nat} {su : Int → D} {b₀ : Stmt} {suite : List Stmt} {np pos' : Pos} {hds : List ExceptHandler} {l : List (Value × Nat × (Int → D))} (hi : X.N[i]? = some n) (hln : X.env.kindOf n = some .local) (hc : Names X x c)
      (hsu : ∀ (a : Addr) (oe : Obj) (cls : Value) (d : Option Addr) (pn : List (Addr × Obj)), Zc cls d oe → (∃ vs, oe.data = .fields vs) → PSs (X.suite a ((a, oe) :: pn)) (b₀ :: suite) (tSu X i su a cls d)) (r : HdsD X hds l) :
      HdsD X (.ExceptHandler (some (.Name x np)) (some n) (b₀ :: suite) pos' :: hds) ((c, i, su) :: l)
theorem HdsD.as {hds : List ExceptHandler} {l : List (Value × Nat × (Int → D))} (h : HdsD X hds l) : HdsAs X hds (l.map fun p => (p.1, p.2.1, tSu X p.2.1 p.2.2)) := by
  induction h with
  | nil => exact .nil
  | cons hi hln hc hsu r ih => exact .cons hi hln hc hsu ih
theorem try_catch {D : Ends} {fr : List DL.D} {fvs : List V} {Wout : WX} {c : Str} {C : Addr} {n : Int} {ρ1 : Env} {σ : St} {H : Hp} {d : Option Addr} (w : WayCls X.K X.mg c C) (hL : B.L = lt X B.L.W) (r : RelVs B ρ1 σ H fr fvs) (dd : Addr) (hd : d = some dd) (hH : H dd = some (.xd [(("at" : Str), .int n)])) :
    ∀ {hds : List ExceptHandler} {l : List (Value × Nat × (Int → DL.D))}, HdsD X hds l → ∀ (rk : Option Nat), catchOk X.K C (l.map (·.1)) rk →
      (match rk with
        | some k => (match (l.map (·.2))[k]? with
          | some (i, su) => i < ρ1.length ∧ ∀ v H, Out B.L.K B.L.w B.P0 [] B.H0 H (su n) v → D.rt v H
          | none => False)
        | none => Wout (.ref C) d σ H) → wAsM X.K Wout D (l.map fun p => (p.1, p.2.1, tSu X p.2.1 p.2.2)) (.ref C) d σ H := by
  intro hds l h
  induction h with
  | nil =>
    intro rk hk q
    cases rk with
    | none => exact q
    | some k => exact hk.elim
  | @cons x nn c' i su b₀ suite np pos' hds2 l2 hi hln hc hsu r2 ih =>
    intro rk hk q
    cases rk with
    | none => exact ⟨false, hk.1, (fun z => by cases z), fun _ => ih none hk.2 q⟩
    | some k =>
      cases k with
      | succ k => exact ⟨false, hk.1, (fun z => by cases z), fun _ => ih (some k) hk.2 (by simpa using q)⟩
      | zero =>
        refine ⟨true, hk, fun _ a ha => ?_, fun z => by cases z⟩
        have q' : i < ρ1.length ∧ ∀ v H, Out B.L.K B.L.w B.P0 [] B.H0 H (su n) v → D.rt v H := by simpa using q
        have hlt : i < σ.length := by rw [← r.envlen]; exact q'.1
        obtain ⟨P, as, bs, g, er, rr, nn, qq⟩ := r
        refine ⟨C, dd, n, rfl, w.xf, w.noN, hd, hH, List.getElem?_set_self hlt, P, g.fz B.fz0 (fun _ z => nomatch z), fun v H' o => ?_⟩
        refine q'.2 v H' (OutL.comb (a1 := []) g (fun _ z => nomatch z) (fun _ z => nomatch z) ?_)
        rw [hL]
        exact o
theorem ds_try {body : List Stmt} {h₀ : ExceptHandler} {hds : List ExceptHandler} {l : List (Value × Nat × (Int → DL.D))} {pos : Pos} {F : Sv} {tbl : List (Str × Option Nat)} (dx : Dx X B.L.W k) (hL : B.L = lt X B.L.W) (hlen : B.L.K = X.K) (hs : X.stack = X.env :: X.outer) (hf : X.env.frame = some X.env.locals)
    (hb : ∀ (W : WX) (pn : List (Addr × Obj)) (xe : Value → Shared → Prop), Takes (X.tr pn xe) W → PassesOwn (model X.prog X.w) X.A X.env xe → DSs (X.tr pn xe) ⟨lt X W, B.H0, B.P0, B.fz0⟩ body F)
    (hh : HdsD X (h₀ :: hds) l) (ht : ∀ c r, tbl.lookup c = some r → ∃ C, WayCls X.K X.mg c C ∧ catchOk X.K C (l.map (·.1)) r) :
    DS X B (.Try body (h₀ :: hds) [] [] pos) (sTry F tbl (l.map (·.2))) := by
  have ps := ps_try_asM (tb := fun W => tS ⟨lt X W, B.H0, B.P0, B.fz0⟩ F) (pos := pos) hs hf dx.nd dx.tk hb hh.as
  refine ⟨fun pins s σ H D I h => ps.run pins s σ H D I ?_⟩
  obtain ⟨ρ, fr, fvs, r, q⟩ := h
  have rk : ∀ {W : WX} {ρ : Env} {σ : St} {H : Hp} {fr : List DL.D} {fvs : List V}, RelVs B ρ σ H fr fvs → RelVs ⟨lt X W, B.H0, B.P0, B.fz0⟩ ρ σ H fr fvs := fun {W ρ σ H fr fvs} h => by
    obtain ⟨P, as, bs, g, er, rr, n, qq⟩ := h
    rw [hL] at er rr
    exact ⟨P, as, bs, g, er, rr, n, qq⟩
  have rk' : ∀ {W : WX} {ρ : Env} {σ : St} {H : Hp} {fr : List DL.D} {fvs : List V}, RelVs ⟨lt X W, B.H0, B.P0, B.fz0⟩ ρ σ H fr fvs → RelVs B ρ σ H fr fvs := fun {W ρ σ H fr fvs} h => by
    obtain ⟨P, as, bs, g, er, rr, n, qq⟩ := h
    refine ⟨P, as, bs, g, ?_, ?_, n, qq⟩
    · rw [hL]; exact er
    · rw [hL]; exact rr
  refine ⟨ρ, fr, fvs, rk r, ?_⟩
  unfold sTry at q
  cases hF : F ρ with
  | nx ρ' => rw [hF] at q; exact fun σ' H' r' => q σ' H' (rk' r')
  | brk ρ' => rw [hF] at q; exact fun σ' H' r' => q σ' H' (rk' r')
  | ct ρ' => rw [hF] at q; exact fun σ' H' r' => q σ' H' (rk' r')
  | ret d => rw [hF] at q; exact fun v H' o => q v H' (by rw [hL]; exact o)
  | stuck => rw [hF] at q; exact q
  | exc c n ρ1 =>
    simp only [hF] at q
    intro cls d σ' H' r' x'
    cases hc : tbl.lookup c with
    | none => simp only [hc] at q; exact q.elim
    | some rk0 =>
      simp only [hc] at q
      obtain ⟨C, w, hk⟩ := ht c rk0 hc
      obtain ⟨C', dd, x1, rfl, x3, x4⟩ := x'
      have x1' : X.mg c = some (.ref C') := x1
      rw [w.gC] at x1'
      cases x1'
      have r2 := rk' r'
      refine try_catch (B := B) (fr := fr) (fvs := fvs) w hL r2 dd x3 x4 hh rk0 hk ?_
      cases rk0 with
      | none => 
        simp only at q ⊢
        exact q _ _ σ' H' r2 ⟨C, dd, by rw [hL]; exact w.gC, rfl, x3, x4⟩
      | some k0 =>
        simp only at q ⊢
        cases hsu : (l.map (·.2))[k0]? with
        | none => simp only [hsu] at q; exact q.elim
        | some p =>
          obtain ⟨i, su⟩ := p
          simp only [hsu] at q ⊢
          by_cases hi : i < ρ1.length
          · simp only [hi, if_true] at q
            exact ⟨hi, q⟩
          · simp only [hi, if_false] at q; exact q.elim
end
end DL

set_option Elab.async false
set_option linter.all false
set_option maxRecDepth 100000
set_option maxHeartbeats 1000000
namespace DL
open PySem PySem.Spec L2
open PyProof.Rows hiding St

/-- from the value v along the keys to u -/
def PathV (H : Hp) : V → List D → V → Prop
  | v, [], u => v = u
  | v, k :: ks, u => ∃ a vs i x, v = .ref a ∧ k = .int i ∧ H a = some (.lst vs) ∧ atI vs i = some x ∧ PathV H x ks u
theorem PathV.inj {H : Hp} : ∀ {ks : List D} {v u u' : V}, PathV H v ks u → PathV H v ks u' → u = u'
  | [], _, _, _, a, b => a.symm.trans b
  | k :: ks, _, _, _, ⟨a, vs, i, x, e1, e2, e3, e4, e5⟩, ⟨a', vs', i', x', f1, f2, f3, f4, f5⟩ => by
    subst e1 e2
    cases f1
    cases f2
    rw [e3] at f3; cases f3
    rw [e4] at f4; cases f4
    exact PathV.inj e5 f5
theorem PathV.same {H H' : Hp} (e : Same H H') : ∀ {ks : List D} {v u : V}, PathV H v ks u → PathV H' v ks u
  | [], _, _, h => h
  | k :: ks, _, _, ⟨a, vs, i, x, e1, e2, e3, e4, e5⟩ => ⟨a, vs, i, x, e1, e2, e _ _ e3, e4, PathV.same e e5⟩
theorem PathV.snoc {H : Hp} : ∀ {ks : List D} {v x u : V} {a : Addr} {vs : List V} {i : Int}, PathV H v ks x → x = .ref a → H a = some (.lst vs) → atI vs i = some u → PathV H v (ks ++ [.int i]) u
  | [], _, _, _, a, vs, i, h, e1, e2, e3 => ⟨a, vs, i, _, h.trans e1, rfl, e2, e3, rfl⟩
  | k :: ks, _, _, _, a, vs, i, ⟨a', vs', i', x', f1, f2, f3, f4, f5⟩, e1, e2, e3 => ⟨a', vs', i', x', f1, f2, f3, f4, PathV.snoc f5 e1 e2 e3⟩
section
variable {K : PySem.W.Frag} {w : World} {P : Addr → Prop} {H : Hp}
theorem Reps.atSplit {ds : List D} {vs : List V} {as : List Addr} (h : Reps K w P H ds vs as) {j : Nat} {x : D} (e : ds[j]? = some x) :
    ∃ xs ys us zs v b1 bx b2, ds = xs ++ x :: ys ∧ vs = us ++ v :: zs ∧ xs.length = j ∧ us.length = j ∧ as = b1 ++ (bx ++ b2) ∧ Reps K w P H xs us b1 ∧ Rep K w P H x v bx ∧ Reps K w P H ys zs b2 := by
  induction j generalizing ds vs as with
  | zero =>
    cases h with
    | nil => simp at e
    | cons a b =>
      simp at e
      subst e
      exact ⟨[], _, [], _, _, [], _, _, rfl, rfl, rfl, rfl, rfl, .nil, a, b⟩
  | succ j ih =>
    cases h with
    | nil => simp at e
    | cons a b =>
      obtain ⟨xs, ys, us, zs, v, b1, bx, b2, e1, e2, e3, e4, e5, r1, r2, r3⟩ := ih b (by simpa using e)
      refine ⟨_ :: xs, ys, _ :: us, zs, v, _ ++ b1, bx, b2, by rw [e1]; rfl, by rw [e2]; rfl, by simp [e3], by simp [e4], by rw [e5, List.append_assoc], .cons a r1, r2, r3⟩
theorem atI_ix {α : Type} {xs : List α} {i : Int} {x : α} (h : atI xs i = some x) : ∃ j, ixN xs.length i = some j ∧ xs[j]? = some x := Option.bind_eq_some_iff.mp h
theorem perm_mid (a b c : List Addr) : (a ++ (b ++ c)).Perm (b ++ (a ++ c)) := by
  rw [← List.append_assoc, ← List.append_assoc]
  exact List.Perm.append_right c List.perm_append_comm
/-- the thing at a path: it, and what is put back -/
theorem Rep.focus : ∀ (ks : List D) {d : D} {v : V} {as : List Addr} {e : D}, Rep K w P H d v as → as.Nodup → pathL d ks = true → getP d ks = some e →
    ∃ u bs cs, PathV H v ks u ∧ Rep K w P H e u bs ∧ (bs ++ cs).Perm as ∧
      ∀ a o e' bs', a ∈ bs → Wr P H a → Rep K w P (L2.upd H a o) e' u bs' → ∃ d' as', putP d ks e' = some d' ∧ Rep K w P (L2.upd H a o) d' v as' ∧ as'.Perm (bs' ++ cs)
  | [], d, v, as, e, r, n, hk, h => by
    simp only [getP, Option.some.injEq] at h
    subst h
    exact ⟨v, as, [], rfl, r, by rw [List.append_nil], fun a o e' bs' _ _ r' => ⟨e', bs', rfl, r', by rw [List.append_nil]⟩⟩
  | k :: ks, d, v, as, e, r, n, hk, h => by
    simp only [getP] at h
    obtain ⟨x, hx, hg⟩ := Option.bind_eq_some_iff.mp h
    cases d with
    | lst own xs =>
      obtain ⟨i, rfl⟩ : ∃ i, k = .int i := by cases k <;> simp [pathL] at hk ⊢
      simp only [dGet] at hx
      have hk' : pathL x ks = true := by
        simp only [pathL, hx] at hk
        exact hk
      obtain ⟨j, hj, hxj⟩ := atI_ix hx
      cases own with
      | false =>
        cases r with
        | lstF hF rr =>
          rename_i a0 vs
          obtain ⟨xs1, ys, us, zs, vx, b1, bx, b2, e1, e2, e3, e4, e5, r1, r2, r3⟩ := rr.atSplit hxj
          have eb : bx = [] := by
            have := e5.symm
            simp at this
            exact this.2.1
          subst eb
          obtain ⟨u, bs, cs, pu, ru, pm, _⟩ := Rep.focus ks r2 .nil hk' hg
          have en : bs = [] ∧ cs = [] := List.append_eq_nil_iff.mp (List.perm_nil.mp pm)
          obtain ⟨rfl, rfl⟩ := en
          refine ⟨u, [], [], ⟨a0, vs, i, vx, rfl, rfl, hF.1, ?_, pu⟩, ru, .refl _, fun a o e' bs' ha => nomatch ha⟩
          unfold atI
          rw [← rr.length, hj, e2]
          show (us ++ vx :: zs)[j]? = some vx
          rw [List.getElem?_append_right (by omega), e4, Nat.sub_self]
          rfl
      | true =>
        cases r with
        | lstO hH rr =>
          rename_i a0 vs as1
          obtain ⟨xs1, ys, us, zs, vx, b1, bx, b2, e1, e2, e3, e4, e5, r1, r2, r3⟩ := rr.atSplit hxj
          obtain ⟨na, n1⟩ := List.nodup_cons.mp n
          rw [e5] at n1 na
          obtain ⟨nb1, nb2, nb3⟩ := List.nodup_append.mp n1
          obtain ⟨nbx, nb4, nb5⟩ := List.nodup_append.mp nb2
          obtain ⟨u, bs, cs, pu, ru, pm, put⟩ := Rep.focus ks r2 nbx hk' hg
          have hvx : atI vs i = some vx := by
            unfold atI
            rw [← rr.length, hj, e2]
            show (us ++ vx :: zs)[j]? = some vx
            rw [List.getElem?_append_right (by omega), e4, Nat.sub_self]
            rfl
          refine ⟨u, bs, a0 :: (b1 ++ (cs ++ b2)), ⟨a0, vs, i, vx, rfl, rfl, hH, hvx, pu⟩, ru, ?_, fun a o e' bs' ha wr r' => ?_⟩
          · rw [e5]
            have : (bs ++ a0 :: (b1 ++ (cs ++ b2))).Perm (a0 :: (bs ++ (b1 ++ (cs ++ b2)))) := List.perm_middle
            refine this.trans (List.Perm.cons a0 ?_)
            have p1 : (bs ++ (b1 ++ (cs ++ b2))).Perm (b1 ++ (bs ++ (cs ++ b2))) := perm_mid _ _ _
            refine p1.trans (List.Perm.append_left b1 ?_)
            rw [← List.append_assoc]
            exact List.Perm.append_right b2 pm
          · have hax : a ∈ bx := pm.mem_iff.mp (List.mem_append_left _ ha)
            obtain ⟨x', bx', hp, rx', pmx⟩ := put a o e' bs' ha wr r'
            have ne0 : a0 ≠ a := fun z => na (by rw [z]; exact List.mem_append_right _ (List.mem_append_left _ hax))
            have n1' : a ∉ b1 := fun z => nb3 a z a (List.mem_append_left _ hax) rfl
            have n2' : a ∉ b2 := fun z => nb5 a hax a z rfl
            refine ⟨.lst true (xs.set j x'), a0 :: (b1 ++ (bx' ++ b2)), ?_, ?_, ?_⟩
            · simp only [putP, dGet, hx, Option.bind_some, hp, dSet, hj, Option.map_some]
            · refine .lstO (vs := vs) (by rw [upd_ne ne0]; exact hH) ?_
              have es : xs.set j x' = xs1 ++ (x' :: ys) := by
                rw [e1, ← e3]
                simp
              rw [es, e2]
              exact (r1.upd wr n1').append (.cons rx' (r3.upd wr n2'))
            · have : (bs' ++ a0 :: (b1 ++ (cs ++ b2))).Perm (a0 :: (bs' ++ (b1 ++ (cs ++ b2)))) := List.perm_middle
              refine List.Perm.trans (List.Perm.cons a0 ?_) this.symm
              have p1 : (bs' ++ (b1 ++ (cs ++ b2))).Perm (b1 ++ (bs' ++ (cs ++ b2))) := perm_mid _ _ _
              refine List.Perm.trans (List.Perm.append_left b1 ?_) p1.symm
              rw [← List.append_assoc]
              exact List.Perm.append_right b2 pmx
    | _ => simp [pathL] at hk
end
def PathS (H : Hp) (σ : St) (i : Nat) (ks : List D) (u : V) : Prop := ∃ v, σ[i]? = some (some v) ∧ PathV H v ks u
/-- a thing in place is written -/
theorem RelVs.mut {B : Fx} {ρ : Env} {σ : St} {H : Hp} {ds fr : List D} {ys fvs : List V} {i : Nat} {ks : List D} {d0 e : D} (r : RelVs B ρ σ H (ds ++ fr) (ys ++ fvs)) (ln : ds.length = ys.length) (h0 : ρ[i]? = some (some d0)) (hk : pathL d0 ks = true) (hg : getP d0 ks = some e) :
    ∃ u P bs cy, PathS H σ i ks u ∧ Rep B.L.K B.L.w P H e u bs ∧ Reps B.L.K B.L.w P H ds ys cy ∧ (bs ++ cy).Nodup ∧ (∀ x ∈ bs ++ cy, ¬ P x) ∧ Fz P H ∧
      ∀ a o e' bs' ds' ys' cy', a ∈ bs → Ob H a → Rep B.L.K B.L.w P (L2.upd H a o) e' u bs' → Reps B.L.K B.L.w P (L2.upd H a o) ds' ys' cy' → (bs' ++ cy').Nodup → (∀ x ∈ bs' ++ cy', x ∈ bs ++ cy) →
        ∃ d1, putP d0 ks e' = some d1 ∧ RelVs B (ρ.set i (some d1)) σ (L2.upd H a o) (ds' ++ fr) (ys' ++ fvs) := by
  obtain ⟨P, as, bf, g, er, rr, n, q⟩ := r
  obtain ⟨cy, c2, rfl, ry, rf⟩ := rr.split ln
  obtain ⟨nf, na, nfa⟩ := List.nodup_append.mp n
  obtain ⟨ncy, nc2, ncc⟩ := List.nodup_append.mp nf
  obtain ⟨v, b0, c0, hv, r0, er0, n0, m0⟩ := er.take na i d0 h0
  obtain ⟨nb0, nc0, nbc⟩ := List.nodup_append.mp n0
  obtain ⟨u, bs, cs, pu, ru, pm, put⟩ := r0.focus ks nb0 hk hg
  have inb : ∀ x ∈ bs, x ∈ b0 := fun x hx => pm.mem_iff.mp (List.mem_append_left _ hx)
  have inc : ∀ x ∈ cs, x ∈ b0 := fun x hx => pm.mem_iff.mp (List.mem_append_right _ hx)
  have nbcs : (bs ++ cs).Nodup := pm.nodup_iff.mpr nb0
  obtain ⟨nbs, ncs, nbscs⟩ := List.nodup_append.mp nbcs
  have a_of : ∀ x ∈ b0, x ∈ as := fun x hx => (m0 x).mp (List.mem_append_left _ hx)
  have a_ofc : ∀ x ∈ c0, x ∈ as := fun x hx => (m0 x).mp (List.mem_append_right _ hx)
  have bsy : (bs ++ cy).Nodup := List.nodup_append.mpr ⟨nbs, ncy, fun x hx y hy e => nfa y (List.mem_append_left _ hy) x (a_of x (inb x hx)) e.symm⟩
  have fzP : Fz P H := g.fz B.fz0 (fun _ z => nomatch z)
  refine ⟨u, P, bs, cy, ⟨v, hv, pu⟩, ru, ry, bsy, fun x hx => ?_, fzP, fun a o e' bs' ds' ys' cy' ha hob re rd' nn sub => ?_⟩
  · rcases List.mem_append.mp hx with hx | hx
    · exact (q x (List.mem_append_right _ (a_of x (inb x hx)))).2
    · exact (q x (List.mem_append_left _ (List.mem_append_left _ hx))).2
  · have haa : a ∈ as := a_of a (inb a ha)
    have wr : Wr P H a := ⟨hob, (q a (List.mem_append_right _ haa)).2⟩
    obtain ⟨d1, as1, hp, r1, pm1⟩ := put a o e' bs' ha wr re
    have h0a : B.H0 a = none := (q a (List.mem_append_right _ haa)).1
    have nac2 : a ∉ c2 := fun z => nfa a (List.mem_append_right _ z) a haa rfl
    have nac0 : a ∉ c0 := fun z => nbc a (inb a ha) a z rfl
    have er1 := er0.upd (o := o) wr nac0
    have hi : i < ρ.length := (List.getElem?_eq_some_iff.mp h0).1
    -- where the new ones come from
    have src : ∀ x ∈ bs' ++ cy', x ∈ bs ∨ x ∈ cy := fun x hx => List.mem_append.mp (sub x hx)
    have n1 : (as1 ++ c0).Nodup := by
      have m1 : ∀ x ∈ as1, x ∈ bs' ++ cs := fun x hx => pm1.mem_iff.mp hx
      refine List.nodup_append.mpr ⟨pm1.nodup_iff.mpr (List.nodup_append.mpr ⟨(List.nodup_append.mp nn).1, ncs, fun x hx y hy e => ?_⟩), nc0, fun x hx y hy e => ?_⟩
      · subst e
        rcases src x (List.mem_append_left _ hx) with z | z
        · exact nbscs x z x hy rfl
        · exact nfa x (List.mem_append_left _ z) x (a_of x (inc x hy)) rfl
      · subst e
        rcases List.mem_append.mp (m1 x hx) with z | z
        · rcases src x (List.mem_append_left _ z) with z | z
          · exact nbc x (inb x z) x hy rfl
          · exact nfa x (List.mem_append_left _ z) x (a_ofc x hy) rfl
        · exact nbc x (inc x z) x hy rfl
    obtain ⟨ca, er2, nca, mca⟩ := er1.put i d1 v as1 (by rw [List.getElem?_set_self hi]) r1 n1
    rw [List.set_set] at er2
    have hσ : σ.set i (some v) = σ := by
      apply List.ext_getElem?
      intro j
      by_cases hj : i = j
      · subst hj
        rw [List.getElem?_set_self (List.getElem?_eq_some_iff.mp hv).1, hv]
      · rw [List.getElem?_set_ne hj]
    rw [hσ] at er2
    have src2 : ∀ x ∈ ca, x ∈ bs ∨ x ∈ cy ∨ x ∈ cs ∨ x ∈ c0 := fun x hx => by
      rcases List.mem_append.mp (mca x hx) with z | z
      · rcases List.mem_append.mp (pm1.mem_iff.mp z) with z | z
        · exact (src x (List.mem_append_left _ z)).elim .inl fun z => .inr (.inl z)
        · exact .inr (.inr (.inl z))
      · exact .inr (.inr (.inr z))
    have good : ∀ x, (x ∈ bs ∨ x ∈ cy ∨ x ∈ cs ∨ x ∈ c0) → B.H0 x = none ∧ ¬ P x := fun x hx => by
      rcases hx with z | z | z | z
      · exact q x (List.mem_append_right _ (a_of x (inb x z)))
      · exact q x (List.mem_append_left _ (List.mem_append_left _ z))
      · exact q x (List.mem_append_right _ (a_of x (inc x z)))
      · exact q x (List.mem_append_right _ (a_ofc x z))
    refine ⟨d1, hp, P, ca, cy' ++ c2, ⟨fun b ob hb => ?_, g.le, fun b hb => ?_⟩, er2, rd'.append (rf.upd wr nac2), ?_, fun x hx => ?_⟩
    · rw [upd_ne (ne_of_none hb h0a)]; exact g.same _ _ hb
    · rcases g.new b hb with z | z | ⟨z, ob, hz⟩
      · exact .inl z
      · cases z
      · refine .inr (.inr ⟨z, ?_⟩)
        by_cases hba : b = a
        · subst hba; exact ⟨_, upd_same⟩
        · exact ⟨ob, by rw [upd_ne hba]; exact hz⟩
    · have ncyc : (cy' ++ c2).Nodup := List.nodup_append.mpr ⟨(List.nodup_append.mp nn).2.1, nc2, fun x hx y hy e => by
        subst e
        rcases src x (List.mem_append_right _ hx) with z | z
        · exact nfa x (List.mem_append_right _ hy) x (a_of x (inb x z)) rfl
        · exact ncc x z x hy rfl⟩
      refine List.nodup_append.mpr ⟨ncyc, nca, fun x hx y hy e => ?_⟩
      subst e
      rcases List.mem_append.mp hx with z | z
      · -- x is new in the frame, and in the environment
        rcases List.mem_append.mp (mca x hy) with y | y
        · rcases List.mem_append.mp (pm1.mem_iff.mp y) with y | y
          · exact (List.nodup_append.mp nn).2.2 x y x z rfl
          · rcases src x (List.mem_append_right _ z) with t | t
            · exact nbscs x t x y rfl
            · exact nfa x (List.mem_append_left _ t) x (a_of x (inc x y)) rfl
        · rcases src x (List.mem_append_right _ z) with t | t
          · exact nbc x (inb x t) x y rfl
          · exact nfa x (List.mem_append_left _ t) x (a_ofc x y) rfl
      · rcases src2 x hy with t | t | t | t
        · exact nfa x (List.mem_append_right _ z) x (a_of x (inb x t)) rfl
        · exact ncc x t x z rfl
        · exact nfa x (List.mem_append_right _ z) x (a_of x (inc x t)) rfl
        · exact nfa x (List.mem_append_right _ z) x (a_ofc x t) rfl
    · rcases List.mem_append.mp hx with hx | hx
      · rcases List.mem_append.mp hx with z | z
        · exact good x ((src x (List.mem_append_right _ z)).elim .inl fun z => .inr (.inl z))
        · exact q x (List.mem_append_left _ (List.mem_append_right _ z))
      · exact good x (src2 x hx)
end DL

set_option Elab.async false
set_option linter.all false
set_option maxRecDepth 100000
set_option maxHeartbeats 1000000
namespace DL
open PySem PySem.Spec L2
open PyProof.Rows hiding St

theorem keysOf_snoc : ∀ {es : List Ev} {f : Ev} {ρ : Env} {ks : List D}, keysOf (es ++ [f]) ρ = some ks → ∃ ks0 k, ks = ks0 ++ [k] ∧ keysOf es ρ = some ks0 ∧ f ρ = .val k ∧ k.clean = true
  | [], f, ρ, ks, h => by
    simp only [List.nil_append, keysOf] at h
    cases hf : f ρ with
    | val k =>
      rw [hf] at h
      simp only at h
      split at h
      · rename_i hc
        cases h
        exact ⟨[], k, rfl, rfl, rfl, hc⟩
      · cases h
    | exc c n => rw [hf] at h; cases h
    | stuck => rw [hf] at h; cases h
  | e :: es, f, ρ, ks, h => by
    simp only [List.cons_append, keysOf] at h
    cases he : e ρ with
    | val k0 =>
      cases hl : keysOf (es ++ [f]) ρ with
      | none => rw [he, hl] at h; cases h
      | some ks1 =>
        rw [he, hl] at h
        simp only at h
        split at h
        · rename_i hc
          cases h
          obtain ⟨ks0, k, rfl, a, b, c⟩ := keysOf_snoc hl
          exact ⟨k0 :: ks0, k, rfl, by simp only [keysOf, he, a, hc, if_true], b, c⟩
        · cases h
    | exc c n => rw [he] at h; cases h
    | stuck => rw [he] at h; cases h
theorem pathL_snoc : ∀ {ks : List D} {d k : D}, pathL d (ks ++ [k]) = true → pathL d ks = true ∧ ∀ e, getP d ks = some e → (∃ own xs i, e = .lst own xs ∧ k = .int i)
  | [], d, k, h => by
    refine ⟨by simp [pathL], fun e he => ?_⟩
    simp only [getP, Option.some.injEq] at he
    subst he
    cases d <;> simp [pathL] at h
    rename_i own xs
    cases k <;> simp [pathL] at h
    exact ⟨own, xs, _, rfl, rfl⟩
  | k0 :: ks, d, k, h => by
    cases d <;> simp only [List.cons_append, pathL] at h <;> try cases h
    rename_i own xs
    cases k0 <;> simp only [pathL] at h <;> try cases h
    rename_i i
    cases hx : atI xs i with
    | none => rw [hx] at h; cases h
    | some x =>
      rw [hx] at h
      obtain ⟨a, b⟩ := pathL_snoc h
      refine ⟨by simp only [pathL, hx]; exact a, fun e he => b e ?_⟩
      simp only [getP, dGet, hx, Option.bind_some] at he
      exact he
theorem getP_snoc : ∀ {ks : List D} {d k e : D}, getP d (ks ++ [k]) = some e → ∃ e1, getP d ks = some e1 ∧ dGet e1 k = some e
  | [], d, k, e, h => by
    simp only [List.nil_append, getP] at h
    obtain ⟨x, a, b⟩ := Option.bind_eq_some_iff.mp h
    simp only [Option.some.injEq] at b
    subst b
    exact ⟨d, rfl, a⟩
  | k0 :: ks, d, k, e, h => by
    simp only [List.cons_append, getP] at h
    obtain ⟨x, a, b⟩ := Option.bind_eq_some_iff.mp h
    obtain ⟨e1, c, f⟩ := getP_snoc b
    exact ⟨e1, by simp only [getP, a, Option.bind_some]; exact c, f⟩
theorem setP_snoc {ks : List D} {d k v : D} : setP d (ks ++ [k]) v = if pathL d ks = true then (getP d ks).bind fun e => (dSet e k v).bind fun e' => putP d ks e' else none := by
  unfold setP
  have : (ks ++ [k]).reverse = k :: ks.reverse := by simp
  rw [this]
  simp only [List.reverse_reverse]

section
variable {X : Cx} {B : Fx} {o idx : Expr} {pos : Pos} {i : Nat} {es : List Ev} {rd : List Nat} {f : Ev}
/-- a place -/
def tP (B : Fx) (i : Nat) (es : List Ev) : TE := fun σ H Q => ∃ ρ fr fvs ks d0 e, RelVs B ρ σ H fr fvs ∧ keysOf es ρ = some ks ∧ ρ[i]? = some (some d0) ∧ pathL d0 ks = true ∧ getP d0 ks = some e ∧ ∀ v H', PathS H' σ i ks v → RelVs B ρ σ H' fr fvs → Q v H'
theorem tp_v (h : PE X o (tVar i)) : PE X o (tP B i []) := PEi h fun σ H Q ⟨ρ, fr, fvs, ks, d0, e, r, hks, h0, hl, hg, q⟩ => by
  simp only [keysOf, Option.some.injEq] at hks
  subst hks
  obtain ⟨P, as, bs, g, er, rr, n, qq⟩ := id r
  obtain ⟨v, _, hv, _⟩ := er.get i d0 h0
  exact ⟨v, hv, q v H ⟨v, hv, rfl⟩ r⟩
theorem RelVs.at {ρ : Env} {σ : St} {H : Hp} {fr : List D} {fvs : List V} {ks : List D} {d0 e : D} (r : RelVs B ρ σ H fr fvs) (h0 : ρ[i]? = some (some d0)) (hk : pathL d0 ks = true) (hg : getP d0 ks = some e) {u : V} (pu : PathS H σ i ks u) :
    ∃ P bs, Fz P H ∧ Rep B.L.K B.L.w P H e u bs ∧ bs.Nodup ∧ ∀ x ∈ bs, ¬ P x := by
  obtain ⟨u', P, bs, cy, ps, re, _, nn, np, fz, _⟩ := RelVs.mut (ds := []) (ys := []) r rfl h0 hk hg
  obtain ⟨v1, a1, b1⟩ := pu
  obtain ⟨v2, a2, b2⟩ := ps
  rw [a1] at a2
  cases a2
  have := b1.inj b2
  subst this
  exact ⟨P, bs, fz, re, (List.nodup_append.mp nn).1, fun x hx => np x (List.mem_append_left _ hx)⟩
theorem tp_ix (ho : PE X o (tP B i es)) (hi : PE X idx (tE B.L rd f)) (hs : PlainIx idx) (hK : B.L.K = X.K) : PE X (.Subscript o idx pos) (tP B i (es ++ [f])) := PEi (pe_ix ix_seq ho hi hs) fun σ H Q ⟨ρ, fr, fvs, ks, d0, e, r, hks, h0, hl, hg, q⟩ => by
  obtain ⟨ks0, k, rfl, hk0, hf, hc⟩ := keysOf_snoc hks
  obtain ⟨e1, hg1, hd⟩ := getP_snoc hg
  obtain ⟨hl1, hl2⟩ := pathL_snoc hl
  obtain ⟨own, xs, n, rfl, rfl⟩ := hl2 e1 hg1
  refine ⟨ρ, fr, fvs, ks0, d0, _, r, hk0, h0, hl1, hg1, fun x H1 px r1 => ?_⟩
  obtain ⟨P1, vw, k1⟩ := r1.view rd
  refine ⟨ρ, P1, vw, ?_⟩
  rw [hf]
  intro y H2 o2
  have e2 := o2.same
  obtain ⟨_, _, _, ry, _⟩ := id o2
  cases ry
  have r2 := r1.same e2
  have px2 : PathS H2 σ i ks0 x := by obtain ⟨v, a, b⟩ := px; exact ⟨v, a, b.same e2⟩
  obtain ⟨P, bs, _, re, _⟩ := r2.at h0 hl1 hg1 px2
  obtain ⟨a, vs, b1, rfl, ha, ra, s⟩ := re.lst_h
  simp only [dGet] at hd
  obtain ⟨v2, b2, hv2, _, _⟩ := atI_reps ra hd
  refine .inl ⟨a, vs, n, v2, rfl, rfl, .of ha, hv2, q v2 H2 ?_ r2⟩
  obtain ⟨v, h1, h2⟩ := px2
  exact ⟨v, h1, h2.snoc rfl ha hv2⟩

def tMs (B : Fx) (m : Mv) : TE := fun σ H Q => ∃ ρ fr fvs, RelVs B ρ σ H fr fvs ∧ match m ρ with
  | .val d ρ' => ∀ v H', Same H H' → RelVs B ρ' σ H' (d :: fr) (v :: fvs) → Q v H'
  | .exc c n ρ' => FlyR B c n ρ' σ fr fvs
  | .stuck => False
def tMLs (B : Fx) (m : MLv) : TA := fun σ H Q => ∃ ρ fr fvs, RelVs B ρ σ H fr fvs ∧ match m ρ with
  | .vals ds ρ' => ∀ vs H', Same H H' → RelVs B ρ' σ H' (ds ++ fr) (vs ++ fvs) → Q vs H'
  | .exc c n ρ' => FlyR B c n ρ' σ fr fvs
  | .stuck => False
theorem dms_e {e : Expr} (h : PE X e (tE B.L rd f)) : PE X e (tMs B (mE rd f)) := PEi h fun σ H Q ⟨ρ, fr, fvs, r, q⟩ => by
  obtain ⟨Q', vw, k⟩ := r.view rd
  refine ⟨ρ, Q', vw, ?_⟩
  unfold mE at q
  cases hf : f ρ with
  | val d =>
    rw [hf] at q
    exact fun v H' o => q v H' o.same (k d v H' o)
  | exc c n => rw [hf] at q; exact q.fly r
  | stuck => rw [hf] at q; exact q
theorem RelVs.move {ρ : Env} {σ : St} {H : Hp} {fr : List D} {fvs : List V} {i : Nat} {d : D} (r : RelVs B ρ σ H fr fvs) (h : ρ[i]? = some (some d)) : ∃ v, σ[i]? = some (some v) ∧ RelVs B (ρ.set i none) σ H (d :: fr) (v :: fvs) := by
  obtain ⟨P, as, bs, g, er, rr, n, qq⟩ := r
  obtain ⟨nb, na, nab⟩ := List.nodup_append.mp n
  obtain ⟨v, b1, cs, hv, rv, er', n', me⟩ := er.take na i d h
  obtain ⟨n1, n2, n3⟩ := List.nodup_append.mp n'
  refine ⟨v, hv, P, cs, b1 ++ bs, g, er', .cons rv rr, ?_, fun a z => ?_⟩
  · rw [List.append_assoc]
    refine List.nodup_append.mpr ⟨n1, List.nodup_append.mpr ⟨nb, n2, fun a z b y e => nab a z b ((me b).mp (List.mem_append_right _ y)) e⟩, fun a z b y e => ?_⟩
    rcases List.mem_append.mp y with y | y
    · exact nab b y a ((me a).mp (List.mem_append_left _ z)) e.symm
    · exact n3 a z b y e
  · rw [List.append_assoc] at z
    rcases List.mem_append.mp z with z | z
    · exact qq a (List.mem_append_right _ ((me a).mp (List.mem_append_left _ z)))
    · rcases List.mem_append.mp z with z | z
      · exact qq a (List.mem_append_left _ z)
      · exact qq a (List.mem_append_right _ ((me a).mp (List.mem_append_right _ z)))
theorem dms_v {e : Expr} {i : Nat} (h : PE X e (tVar i)) : PE X e (tMs B (mV i)) := PEi h fun σ H Q ⟨ρ, fr, fvs, r, q⟩ => by
  unfold mV at q
  cases h : ρ[i]? with
  | none => rw [h] at q; exact q.elim
  | some x =>
    cases x with
    | none => rw [h] at q; exact q.elim
    | some d =>
      rw [h] at q
      obtain ⟨v, hv, r'⟩ := r.move h
      exact ⟨v, hv, q v H (.refl _) r'⟩
theorem dmls_nil : PA X [] (tMLs B mN) := PAi pa_nil fun σ H Q ⟨ρ, fr, fvs, r, q⟩ => q [] H (.refl _) r
theorem dmls_cons {e : Expr} {es : List Expr} {m : Mv} {l : MLv} (ha : PE X e (tMs B m)) (hr : PA X es (tMLs B l)) (hs : starEach (e :: es) X.env = (false, eval e X.env) :: starEach es X.env := by rfl) : PA X (e :: es) (tMLs B (mC m l)) :=
  PAi (pa_cons ha hr hs) fun σ H Q ⟨ρ, fr, fvs, r, q⟩ => by
    refine ⟨ρ, fr, fvs, r, ?_⟩
    unfold mC at q
    cases hm : m ρ with
    | val d ρ1 =>
      rw [hm] at q
      intro v H1 e1 r1
      refine ⟨ρ1, d :: fr, v :: fvs, r1, ?_⟩
      cases hl : l ρ1 with
      | vals ds ρ2 =>
        simp only [hl] at q
        intro vs H2 e2 r2
        have ln : ds.length = vs.length := by
          have a := r2.lens
          have b := r1.lens
          simp only [List.length_append, List.length_cons] at a b
          omega
        exact q (v :: vs) H2 (e1.trans e2) (RelVs.perm (xs := ds) (ys := [d]) (us := vs) (vs := [v]) ln rfl r2)
      | exc c n ρ' => simp only [hl] at q; exact fun cls d H' r' x => q cls d H' r'.tail x
      | stuck => simp only [hl] at q
    | exc c n ρ' => rw [hm] at q; exact q
    | stuck => rw [hm] at q; exact q

def MetD (X : Cx) (r : V → List V → Hp → VK → Prop) (g : D → List D → Option (D × D)) : Prop := ∀ P H e u bs ds ys cy e' res Q, Fz P H → Rep X.K X.w P H e u bs → Reps X.K X.w P H ds ys cy → (bs ++ cy).Nodup → (∀ x ∈ bs ++ cy, ¬ P x) → g e ds = some (e', res) →
  (∀ a o v bs' cy', a ∈ bs → Ob H a → Rep X.K X.w P (L2.upd H a o) e' u bs' → Rep X.K X.w P (L2.upd H a o) res v cy' → (bs' ++ cy').Nodup → (∀ x ∈ bs' ++ cy', x ∈ bs ++ cy) → Q v (L2.upd H a o)) → r u ys H Q
def mMeth (i : Nat) (es : List Ev) (l : MLv) (g : D → List D → Option (D × D)) : Mv := fun ρ => match keysOf es ρ, ρ[i]? with
  | some ks, some (some d0) => (match getP d0 ks with
    | some (.lst _ _) => if pathL d0 ks = true then (match l ρ with
      | .vals ds ρ1 => (match ρ1[i]? with
        | some (some d1) => if pathL d1 ks = true then (match getP d1 ks with
          | some e => (match g e ds with
            | some (e', res) => (match putP d1 ks e' with
              | some d2 => .val res (ρ1.set i (some d2))
              | none => .stuck)
            | none => .stuck)
          | none => .stuck) else .stuck
        | _ => .stuck)
      | .exc c n ρ' => .exc c n ρ'
      | .stuck => .stuck) else .stuck
    | _ => .stuck)
  | _, _ => .stuck
theorem meth_of {ρ : Env} {σ : St} {H : Hp} {fr : List D} {fvs : List V} {r : V → List V → Hp → VK → Prop} {g : D → List D → Option (D × D)} {ks : List D} {d1 e e' res d2 : D} {ds : List D} {ys : List V} {x : V} {Q : VK} (md : MetD X r g) (hL : B.L.K = X.K) (hW : B.L.w = X.w)
    (rv : RelVs B ρ σ H (ds ++ fr) (ys ++ fvs)) (ln : ds.length = ys.length) (px : PathS H σ i ks x) (h1 : ρ[i]? = some (some d1)) (hk : pathL d1 ks = true) (hg : getP d1 ks = some e) (hm : g e ds = some (e', res)) (hp : putP d1 ks e' = some d2)
    (q : ∀ v H', RelVs B (ρ.set i (some d2)) σ H' (res :: fr) (v :: fvs) → Q v H') : r x ys H Q := by
  obtain ⟨u, P, bs, cy, ps, re, ry, nn, np, fz, upd⟩ := RelVs.mut rv ln h1 hk hg
  obtain ⟨v1, a1, b1⟩ := px
  obtain ⟨v2, a2, b2⟩ := ps
  rw [a1] at a2
  cases a2
  have := b1.inj b2
  subst this
  rw [hL, hW] at re ry
  refine md P H e x bs ds ys cy e' res Q fz re ry nn np hm fun a o v bs' cy' ha hob re' rr' nn' sub => ?_
  have rr2 : Reps B.L.K B.L.w P (L2.upd H a o) [res] [v] cy' := by
    have := Reps.cons rr' .nil
    rw [List.append_nil] at this
    rw [hL, hW]
    exact this
  rw [← hL, ← hW] at re'
  obtain ⟨d3, hp3, r3⟩ := upd a o e' bs' [res] [v] cy' ha hob re' rr2 nn' sub
  rw [hp] at hp3
  cases hp3
  exact q v _ r3
theorem dm_meth {a : Expr} {args : List Expr} {name : Str} {apos cpos : Pos} {id : String} {r : V → List V → Hp → VK → Prop} {g : D → List D → Option (D × D)} {l : MLv} (slot : Slot "list" name id) (hty : typeOf (.builtin id) = pure (.type "method_descriptor")) (hm : MtR X id r) (md : MetD X r g) (hL : B.L.K = X.K) (hW : B.L.w = X.w)
    (ho : PE X o (tP B i es)) (ha : PA X (a :: args) (tMLs B l)) (hbase : attributeBase o name X.env (eval o X.env) = eval o X.env := by rfl)
    (hfew : ((backTo cpos (starEach (a :: args) X.env)).all (fun x => !x.1) && (backToKw cpos (keywordEach [] X.env)).all (fun x => x.1.isSome)
      && decide ((a :: args).length + ([] : List Keyword).length + (if ([] : List Keyword).isEmpty then 0 else 1) < 30)) = true := by rfl)
    (hline : (apos.endLine == cpos.line) = true := by rfl) (hs : starEach (a :: args) X.env = (false, eval a X.env) :: starEach args X.env := by rfl) (hplain : (backTo cpos (starEach args X.env)).any (·.1) = false := by rfl) :
    DM X B (.Call (.Attribute o name apos) (a :: args) [] cpos) (mMeth i es l g) := PEi (pe_bm F.plainAttrs_list slot hty hm ho ha hbase hfew hline hs hplain) fun σ H Q ⟨ρ, fr, fvs, r0, q⟩ => by
  unfold mMeth at q
  cases hks : keysOf es ρ with
  | none => rw [hks] at q; exact q.elim
  | some ks =>
  cases h0 : ρ[i]? with
  | none => rw [hks, h0] at q; exact q.elim
  | some x0 =>
  cases x0 with
  | none => rw [hks, h0] at q; exact q.elim
  | some d0 =>
  simp only [hks, h0] at q
  cases hg0 : getP d0 ks with
  | none => simp only [hg0] at q
  | some e0 =>
  rw [hg0] at q
  cases e0 with
  | lst own xs =>
    simp only at q
    by_cases hp0 : pathL d0 ks = true
    · simp only [hp0, if_true] at q
      refine ⟨ρ, fr, fvs, ks, d0, _, r0, hks, h0, hp0, hg0, fun x H1 px r1 => ⟨?_, ?_⟩⟩
      · obtain ⟨P, bs, _, re, _⟩ := r1.at h0 hp0 hg0 px
        obtain ⟨a, vs, b1, rfl, ha, ra, s⟩ := re.lst_h
        exact .inl ⟨rfl, vs, .of ha⟩
      · refine ⟨ρ, fr, fvs, r1, ?_⟩
        cases hl : l ρ with
        | exc c n ρ' => simp only [hl] at q; exact q
        | stuck => simp only [hl] at q
        | vals ds ρ1 =>
        simp only [hl] at q
        intro ys H2 e2 r2
        have ln : ds.length = ys.length := by
          have a := r2.lens
          have b := r1.lens
          simp only [List.length_append] at a
          omega
        cases h1 : ρ1[i]? with
        | none => simp only [h1] at q
        | some x1 =>
        cases x1 with
        | none => simp only [h1] at q
        | some d1 =>
        simp only [h1] at q
        by_cases hp1 : pathL d1 ks = true
        · simp only [hp1, if_true] at q
          cases hg1 : getP d1 ks with
          | none => simp only [hg1] at q
          | some e =>
          simp only [hg1] at q
          cases hm1 : g e ds with
          | none => simp only [hm1] at q
          | some p =>
          obtain ⟨e', res⟩ := p
          simp only [hm1] at q
          cases hpp : putP d1 ks e' with
          | none => simp only [hpp] at q
          | some d2 =>
          simp only [hpp] at q
          have px2 : PathS H2 σ i ks x := by obtain ⟨v, a, b⟩ := px; exact ⟨v, a, b.same e2⟩
          exact meth_of md hL hW r2 ln px2 h1 hp1 hg1 hm1 hpp fun v H' r' => q v H' r'
        · simp only [hp1, if_false] at q; exact q.elim
    · simp only [hp0, if_false] at q; exact q.elim
  | _ => exact q.elim
theorem dm_meth0 {name : Str} {apos cpos : Pos} {id : String} {r : V → List V → Hp → VK → Prop} {g : D → List D → Option (D × D)} (slot : Slot "list" name id) (hty : typeOf (.builtin id) = pure (.type "method_descriptor")) (hm : MtR X id r) (md : MetD X r g) (hL : B.L.K = X.K) (hW : B.L.w = X.w)
    (ho : PE X o (tP B i es)) (hbase : attributeBase o name X.env (eval o X.env) = eval o X.env := by rfl) (hline : (apos.endLine == cpos.line) = true := by rfl) :
    DM X B (.Call (.Attribute o name apos) [] [] cpos) (mMeth i es mN g) := PEi (pe_bm0 F.plainAttrs_list slot hty hm ho hbase hline) fun σ H Q ⟨ρ, fr, fvs, r0, q⟩ => by
  unfold mMeth mN at q
  cases hks : keysOf es ρ with
  | none => rw [hks] at q; exact q.elim
  | some ks =>
  cases h0 : ρ[i]? with
  | none => rw [hks, h0] at q; exact q.elim
  | some x0 =>
  cases x0 with
  | none => rw [hks, h0] at q; exact q.elim
  | some d0 =>
  simp only [hks, h0] at q
  cases hg0 : getP d0 ks with
  | none => simp only [hg0] at q
  | some e0 =>
  rw [hg0] at q
  cases e0 with
  | lst own xs =>
    simp only at q
    by_cases hp0 : pathL d0 ks = true
    · simp only [hp0, if_true] at q
      refine ⟨ρ, fr, fvs, ks, d0, _, r0, hks, h0, hp0, hg0, fun x H1 px r1 => ⟨?_, ?_⟩⟩
      · obtain ⟨P, bs, _, re, _⟩ := r1.at h0 hp0 hg0 px
        obtain ⟨a, vs, b1, rfl, ha, ra, s⟩ := re.lst_h
        exact .inl ⟨rfl, vs, .of ha⟩
      · cases hm1 : g (.lst own xs) [] with
        | none => simp only [hm1] at q
        | some p =>
        obtain ⟨e', res⟩ := p
        simp only [hm1] at q
        cases hpp : putP d0 ks e' with
        | none => simp only [hpp] at q
        | some d2 =>
        simp only [hpp] at q
        exact meth_of (ds := []) (ys := []) md hL hW r1 rfl px h0 hp0 hg0 hm1 hpp fun v H' r' => q v H' r'
    · simp only [hp0, if_false] at q; exact q.elim
  | _ => exact q.elim

def gAppend : D → List D → Option (D × D)
  | .lst true xs, [d] => if xs.length < sizeLine then some (.lst true (xs ++ [d]), .non) else none
  | _, _ => none
theorem md_append : MetD X rAppend gAppend := fun P H e u bs ds ys cy e' res Q fz re ry nn np hg k => by
  unfold gAppend at hg
  split at hg
  · rename_i xs d
    split at hg
    · rename_i hz
      cases hg
      obtain ⟨y, rfl, r1⟩ := ry.sing
      cases re with
      | lstO hH rr =>
        rename_i a vs as
        obtain ⟨nbs, ncy, nbc⟩ := List.nodup_append.mp nn
        obtain ⟨na, nas⟩ := List.nodup_cons.mp nbs
        have wr : Wr P H a := ⟨.inl ⟨_, hH⟩, np a (by simp)⟩
        have nac : a ∉ cy := fun z => nbc a List.mem_cons_self a z rfl
        refine ⟨a, vs, y, rfl, rfl, hH, by rw [← rr.length]; exact hz, k a _ .non (a :: (as ++ cy)) [] List.mem_cons_self (.inl ⟨_, hH⟩) (.lstO upd_same ((rr.upd wr na).append (by have := Reps.cons (r1.upd (o := .lst (vs ++ [y])) wr nac) .nil; rw [List.append_nil] at this; exact this))) .non ?_ (fun x hx => by simpa using hx)⟩
        rw [List.append_nil]
        exact nn
    · cases hg
  · cases hg
/-- x.pop() -/
def gPop : D → List D → Option (D × D)
  | .lst true xs, [] => match xs[xs.length - 1]? with
    | some d => some (.lst true xs.dropLast, d)
    | none => none
  | _, _ => none
theorem Reps.eraseAt {K : PySem.W.Frag} {w : World} {P : Addr → Prop} {H : Hp} {ds : List D} {vs : List V} {as : List Addr} (h : Reps K w P H ds vs as) (n : as.Nodup) {j : Nat} {d : D} (e : ds[j]? = some d) :
    ∃ v a1 a2, vs[j]? = some v ∧ Rep K w P H d v a1 ∧ Reps K w P H (ds.eraseIdx j) (vs.eraseIdx j) a2 ∧ (a2 ++ a1).Nodup ∧ ∀ x ∈ a2 ++ a1, x ∈ as := by
  obtain ⟨xs, ys, us, zs, v, b1, bx, b2, e1, e2, e3, e4, e5, r1, r2, r3⟩ := h.atSplit e
  subst e5
  refine ⟨v, bx, b1 ++ b2, ?_, r2, ?_, ?_, fun x hx => ?_⟩
  · rw [e2, List.getElem?_append_right (by omega), e4, Nat.sub_self]; rfl
  · have h1 : ds.eraseIdx j = xs ++ ys := by rw [e1, ← e3, List.eraseIdx_append_of_length_le (Nat.le_refl _), Nat.sub_self]; rfl
    have h2 : vs.eraseIdx j = us ++ zs := by rw [e2, ← e4, List.eraseIdx_append_of_length_le (Nat.le_refl _), Nat.sub_self]; rfl
    rw [h1, h2]
    exact r1.append r3
  · have p : ((b1 ++ b2) ++ bx).Perm (b1 ++ (bx ++ b2)) := by
      rw [List.append_assoc]
      exact List.Perm.append_left b1 List.perm_append_comm
    exact p.nodup_iff.mpr n
  · have p : ((b1 ++ b2) ++ bx).Perm (b1 ++ (bx ++ b2)) := by
      rw [List.append_assoc]
      exact List.Perm.append_left b1 List.perm_append_comm
    exact p.mem_iff.mp hx
theorem dropLast_erase {α : Type} (l : List α) : l.dropLast = l.eraseIdx (l.length - 1) := by
  rw [List.dropLast_eq_take, List.eraseIdx_eq_take_drop_succ]
  rw [List.drop_of_length_le (by omega), List.append_nil]
/-- an item goes out of a list -/
theorem erase_of {K : PySem.W.Frag} {w : World} {P : Addr → Prop} {H : Hp} {xs : List D} {d : D} {j : Nat} {u : V} {bs : List Addr} {Q : VK} (re : Rep K w P H (.lst true xs) u bs) (nn : bs.Nodup) (np : ∀ x ∈ bs, ¬ P x) (hj : xs[j]? = some d)
    (k : ∀ a o v bs' cy', a ∈ bs → Ob H a → Rep K w P (L2.upd H a o) (.lst true (xs.eraseIdx j)) u bs' → Rep K w P (L2.upd H a o) d v cy' → (bs' ++ cy').Nodup → (∀ x ∈ bs' ++ cy', x ∈ bs) → Q v (L2.upd H a o)) :
    ∃ a vs v, u = .ref a ∧ H a = some (.lst vs) ∧ vs[j]? = some v ∧ vs.length = xs.length ∧ Q v (L2.upd H a (.lst (vs.eraseIdx j))) := by
  cases re with
  | lstO hH rr =>
    rename_i a vs as
    obtain ⟨na, nas⟩ := List.nodup_cons.mp nn
    have wr : Wr P H a := ⟨.inl ⟨_, hH⟩, np a List.mem_cons_self⟩
    obtain ⟨v, a1, a2, hv, r1, r2, n3, m3⟩ := rr.eraseAt nas hj
    have na1 : a ∉ a1 := fun z => na (m3 a (List.mem_append_right _ z))
    have na2 : a ∉ a2 := fun z => na (m3 a (List.mem_append_left _ z))
    refine ⟨a, vs, v, rfl, hH, hv, rr.length.symm, k a _ v (a :: a2) a1 List.mem_cons_self (.inl ⟨_, hH⟩) (.lstO upd_same (r2.upd wr na2)) (r1.upd wr na1) (List.nodup_cons.mpr ⟨fun z => na (m3 a z), n3⟩) fun x hx => ?_⟩
    rcases List.mem_cons.mp hx with rfl | hx
    · exact List.mem_cons_self
    · exact List.mem_cons_of_mem _ (m3 x hx)
theorem md_pop : MetD X rPop gPop := fun P H e u bs ds ys cy e' res Q fz re ry nn np hg k => by
  unfold gPop at hg
  split at hg
  · rename_i xs
    split at hg
    · rename_i d hd
      cases hg
      cases ry
      rw [List.append_nil] at nn np k
      obtain ⟨a, vs, v, rfl, hH, hv, hl, q⟩ := erase_of (Q := Q) re nn np hd (fun a o v bs' cy' ha hob r1 r2 n s => k a o v bs' cy' ha hob (by rw [dropLast_erase]; exact r1) r2 n s)
      exact ⟨a, vs, v, rfl, rfl, hH, by rw [hl]; exact hv, by rw [dropLast_erase, hl]; exact q⟩
    · cases hg
  · cases hg
/-- x.pop(i) -/
def gPopAt : D → List D → Option (D × D)
  | .lst true xs, [.int i] => if -(2 ^ 63) ≤ i ∧ i < 2 ^ 63 then (match seqIndex? i xs.length with
    | some j => (match xs[j]? with
      | some d => some (.lst true (xs.eraseIdx j), d)
      | none => none)
    | none => none) else none
  | _, _ => none
theorem md_popAt : MetD X rPopAt gPopAt := fun P H e u bs ds ys cy e' res Q fz re ry nn np hg k => by
  unfold gPopAt at hg
  split at hg
  · rename_i xs i
    split at hg
    · rename_i hi
      split at hg
      · rename_i j hj
        split at hg
        · rename_i d hd
          cases hg
          obtain ⟨y, rfl, r1⟩ := ry.sing
          obtain ⟨rfl, rfl⟩ := r1.int_eq
          rw [List.append_nil] at nn np k
          obtain ⟨a, vs, v, rfl, hH, hv, hl, q⟩ := erase_of (Q := Q) re nn np hd k
          exact ⟨a, vs, i, j, v, rfl, rfl, hH, hi.1, hi.2, by rw [hl]; exact hj, hv, q⟩
        · cases hg
      · cases hg
    · cases hg
  · cases hg
/-- x.extend(y), y a list -/
def gExtend : D → List D → Option (D × D)
  | .lst true xs, [.lst _ ys] => if xs.length + ys.length ≤ sizeLine then some (.lst true (xs ++ ys), .non) else none
  | _, _ => none
theorem md_extend : MetD X rExtend gExtend := fun P H e u bs ds ys cy e' res Q fz re ry nn np hg k => by
  unfold gExtend at hg
  split at hg
  · rename_i xs o zs
    split at hg
    · rename_i hz
      cases hg
      obtain ⟨y, rfl, r1⟩ := ry.sing
      obtain ⟨b, us, b2, rfl, hb, rb, sb⟩ := r1.lst_h
      cases re with
      | lstO hH rr =>
        rename_i a vs as
        obtain ⟨nbs, ncy, nbc⟩ := List.nodup_append.mp nn
        obtain ⟨na, nas⟩ := List.nodup_cons.mp nbs
        have wr : Wr P H a := ⟨.inl ⟨_, hH⟩, np a (by simp)⟩
        have nac : a ∉ b2 := fun z => nbc a List.mem_cons_self a (sb.subset z) rfl
        refine ⟨a, b, vs, us, rfl, rfl, hH, hb, by rw [← rr.length, ← rb.length]; exact hz, k a _ .non (a :: (as ++ b2)) [] List.mem_cons_self (.inl ⟨_, hH⟩) (.lstO upd_same ((rr.upd wr na).append (rb.upd wr nac))) .non ?_ (fun x hx => ?_)⟩
        · rw [List.append_nil]
          exact List.Nodup.sublist (List.Sublist.append (List.Sublist.refl (a :: as)) sb) nn
        · rw [List.append_nil] at hx
          rcases List.mem_append.mp (show x ∈ (a :: as) ++ b2 from hx) with z | z
          · exact List.mem_append_left _ z
          · exact List.mem_append_right _ (sb.subset z)
    · cases hg
  · cases hg

theorem dg_sub (ho : PE X o (tP B i es)) (hi : PE X idx (tE B.L rd f)) (hL : B.L.K = X.K) (hW : B.L.w = X.w)
    (ha : ∀ v, assign (.Subscript o idx pos) X.env v = (do
      let ov ← holding [v] (eval o X.env)
      let iv ← holding [v, ov] (eval idx X.env)
      standAt pos
      holding [v, ov, iv] (setItem ov iv v)
      release [v, ov, iv] []) := by intro _; rfl) : DG X B (.Subscript o idx pos) (.sub i (es ++ [f])) :=
  PGi (pg_sub ho hi set_list ha) fun y σ H Q ⟨ρ, d, fr, fvs, r, q⟩ => by
    simp only [Tg.put] at q
    cases hks : keysOf (es ++ [f]) ρ with
    | none => rw [hks] at q; exact q.elim
    | some ks =>
    cases h0 : ρ[i]? with
    | none => rw [hks, h0] at q; exact q.elim
    | some x0 =>
    cases x0 with
    | none => rw [hks, h0] at q; exact q.elim
    | some d0 =>
    simp only [hks, h0] at q
    cases hs : setP d0 ks d with
    | none => rw [hs] at q; exact q.elim
    | some d1 =>
    rw [hs] at q
    simp only [Option.map_some] at q
    obtain ⟨ks0, k, rfl, hk0, hf, hc⟩ := keysOf_snoc hks
    rw [setP_snoc] at hs
    by_cases hl1 : pathL d0 ks0 = true
    · rw [if_pos hl1] at hs
      obtain ⟨e, hg, hs⟩ := Option.bind_eq_some_iff.mp hs
      obtain ⟨e', he', hp⟩ := Option.bind_eq_some_iff.mp hs
      obtain ⟨xs, n, rfl, rfl⟩ : ∃ xs n, e = .lst true xs ∧ k = .int n := by
        unfold dSet at he'
        split at he'
        · exact ⟨_, _, rfl, rfl⟩
        · cases he'
      refine ⟨ρ, d :: fr, y :: fvs, ks0, d0, _, r, hk0, h0, hl1, hg, fun x H1 px r1 => ?_⟩
      obtain ⟨P1, vw, k1⟩ := r1.view rd
      refine ⟨ρ, P1, vw, ?_⟩
      rw [hf]
      intro z H2 o2
      have e2 := o2.same
      obtain ⟨_, _, _, rz, _⟩ := id o2
      cases rz
      have r2 := r1.same e2
      have px2 : PathS H2 σ i ks0 x := by obtain ⟨v, a, b⟩ := px; exact ⟨v, a, b.same e2⟩
      obtain ⟨u, P, bs, cy, ps, re, ry, nn, np, fz, upd⟩ := RelVs.mut (ds := [d]) (ys := [y]) r2 rfl h0 hl1 hg
      obtain ⟨v1, a1, b1⟩ := px2
      obtain ⟨v2, a2, b2⟩ := ps
      rw [a1] at a2
      cases a2
      have := b1.inj b2
      subst this
      have ry1 := ry.one
      · simp only [dSet] at he'
        cases hj : ixN xs.length n with
        | none => rw [hj] at he'; cases he'
        | some j =>
        rw [hj] at he'
        cases he'
        cases re with
        | lstO hH rr =>
          rename_i a vs as
          obtain ⟨nbs, ncy, nbc⟩ := List.nodup_append.mp nn
          obtain ⟨na, nas⟩ := List.nodup_cons.mp nbs
          have wr : Wr P H2 a := ⟨.inl ⟨_, hH⟩, np a (by simp)⟩
          have nac : a ∉ cy := fun z => nbc a List.mem_cons_self a z rfl
          refine ⟨a, vs, n, j, rfl, rfl, hH, by rw [← rr.length]; exact hj, ?_⟩
          have hlt : j < xs.length := (ixN_seq hj).2.1
          obtain ⟨x1, hx1⟩ : ∃ x1, xs[j]? = some x1 := ⟨xs[j], List.getElem?_eq_getElem hlt⟩
          obtain ⟨xs1, zs, us, ws, v3, c1, cx, c2, e1, e2', e3, e4, e5, r1', r2', r3'⟩ := rr.atSplit hx1
          subst e5
          obtain ⟨n1, n2, n3⟩ := List.nodup_append.mp nas
          obtain ⟨n4, n5, n6⟩ := List.nodup_append.mp n2
          have na1 : a ∉ c1 := fun z => na (List.mem_append_left _ z)
          have na2 : a ∉ c2 := fun z => na (List.mem_append_right _ (List.mem_append_right _ z))
          have es1 : xs.set j d = xs1 ++ (d :: zs) := by rw [e1, ← e3]; simp
          have es2 : vs.set j y = us ++ (y :: ws) := by rw [e2', ← e4]; simp
          have sub1 : ∀ x ∈ c1 ++ (cy ++ c2), x ∈ (c1 ++ (cx ++ c2)) ∨ x ∈ cy := fun x hx => by
            rcases List.mem_append.mp hx with z | z
            · exact .inl (List.mem_append_left _ z)
            · rcases List.mem_append.mp z with z | z
              · exact .inr z
              · exact .inl (List.mem_append_right _ (List.mem_append_right _ z))
          have hnd : (a :: (c1 ++ (cy ++ c2))).Nodup := by
            refine List.nodup_cons.mpr ⟨fun z => (sub1 a z).elim na nac, List.nodup_append.mpr ⟨n1, List.nodup_append.mpr ⟨ncy, n5, fun x hx y hy e => ?_⟩, fun x hx y hy e => ?_⟩⟩
            · subst e
              exact nbc x (List.mem_cons_of_mem _ (List.mem_append_right _ (List.mem_append_right _ hy))) x hx rfl
            · subst e
              rcases List.mem_append.mp hy with z | z
              · exact nbc x (List.mem_cons_of_mem _ (List.mem_append_left _ hx)) x z rfl
              · exact n3 x hx x (List.mem_append_right _ z) rfl
          have hsub : ∀ x ∈ a :: (c1 ++ (cy ++ c2)), x ∈ (a :: (c1 ++ (cx ++ c2))) ++ cy := fun x hx => by
            rcases List.mem_cons.mp hx with rfl | hx
            · exact List.mem_append_left _ List.mem_cons_self
            · exact (sub1 x hx).elim (fun z => List.mem_append_left _ (List.mem_cons_of_mem _ z)) (fun z => List.mem_append_right _ z)
          obtain ⟨d3, hp3, r3⟩ := upd a (.lst (vs.set j y)) (.lst true (xs.set j d)) (a :: (c1 ++ (cy ++ c2))) [] [] [] List.mem_cons_self (.inl ⟨_, hH⟩) (.lstO (vs := vs.set j y) upd_same (by rw [es1, es2]; exact (r1'.upd wr na1).append (.cons (ry1.upd wr nac) (r3'.upd wr na2)))) .nil (by rw [List.append_nil]; exact hnd) (by rw [List.append_nil]; exact hsub)
          rw [hp] at hp3
          cases hp3
          exact q σ _ r3
    · rw [if_neg hl1] at hs; cases hs

theorem su_at {i : Nat} {e : Expr} {ap rp : Pos} (hv : ∀ (a : Addr) (oe : Obj) (pn : List (Addr × Obj)), PE (X.suite a ((a, oe) :: pn)) e (tVar i)) (hb : attributeBase e "at" X.env (eval e X.env) = eval e X.env := by rfl) :
    ∀ (a : Addr) (oe : Obj) (cls : Value) (d : Option Addr) (pn : List (Addr × Obj)), Zc cls d oe → (∃ vs, oe.data = .fields vs) → PSs (X.suite a ((a, oe) :: pn)) [.Return (some (.Attribute e "at" ap)) rp] (tSu X i (fun n => .int n) a cls d) :=
  fun a oe cls d pn hz hf => ⟨fun pins s σ H D I ⟨C, dd, n, ec, xf, no, ed, hH, hσ, P, fz, q⟩ => by
    refine (pss_one (ps_ret (pe_xf xf no hz hf (hv a oe pn) hb))).run pins s σ H D I ?_
    exact ⟨_, hσ, rfl, ec, dd, _, .int n, ed, hH, by simp [List.lookup], q _ H (.int n)⟩⟩
theorem su_tup {i : Nat} {e : Expr} {w : Str} {ap rp cp tp : Pos} {k j : Nat} (hv : ∀ (a : Addr) (oe : Obj) (pn : List (Addr × Obj)), PE (X.suite a ((a, oe) :: pn)) e (tVar i)) (hb : attributeBase e "at" X.env (eval e X.env) = eval e X.env := by rfl) :
    ∀ (a : Addr) (oe : Obj) (cls : Value) (d : Option Addr) (pn : List (Addr × Obj)), Zc cls d oe → (∃ vs, oe.data = .fields vs) → PSs (X.suite a ((a, oe) :: pn)) [.Return (some (.Tuple [.Constant (.str w) k cp, .Attribute e "at" ap] j tp)) rp] (tSu X i (fun n => .tup [.str w, .int n]) a cls d) :=
  fun a oe cls d pn hz hf => ⟨fun pins s σ H D I ⟨C, dd, n, ec, xf, no, ed, hH, hσ, P, fz, q⟩ => by
    refine (pss_one (ps_ret (pe_tup (pa_cons pe_str (pa_cons (pe_xf xf no hz hf (hv a oe pn) hb) pa_nil))))).run pins s σ H D I ?_
    refine ⟨_, hσ, rfl, ec, dd, _, .int n, ed, hH, by simp [List.lookup], by show 2 ≤ sizeLine; decide, fun p hp => q _ _ ?_⟩
    exact Out.newT (as := []) hp (.cons (as := []) (bs := []) (.str w) (.cons (as := []) (bs := []) (.int n) .nil)) .nil⟩
end
end DL

set_option Elab.async false
set_option linter.all false
set_option maxRecDepth 100000
set_option maxHeartbeats 1000000
namespace DL
open PySem PySem.Spec L2
open PyProof.Rows hiding St

mutual
theorem toPy_nodict : ∀ (d : D) (p : PyData), toPy d = some p → p.hasDict = false
  | .non, p, h => by simp only [toPy, Option.some.injEq] at h; subst h; simp only [PyData.hasDict]
  | .bl _, p, h => by simp only [toPy, Option.some.injEq] at h; subst h; simp only [PyData.hasDict]
  | .int _, p, h => by simp only [toPy, Option.some.injEq] at h; subst h; simp only [PyData.hasDict]
  | .str _, p, h => by simp only [toPy, Option.some.injEq] at h; subst h; simp only [PyData.hasDict]
  | .tup xs, p, h => by
    simp only [toPy] at h
    cases e : toPys xs with
    | none => rw [e] at h; cases h
    | some ps => rw [e] at h; cases h; simp only [PyData.hasDict]; exact toPys_nodict xs ps e
  | .lst _ xs, p, h => by
    simp only [toPy] at h
    cases e : toPys xs with
    | none => rw [e] at h; cases h
    | some ps => rw [e] at h; cases h; simp only [PyData.hasDict]; exact toPys_nodict xs ps e
  | .dic _ _, p, h => by simp [toPy] at h
  | .set _, p, h => by simp [toPy] at h
  | .scr _, p, h => by simp [toPy] at h
  | .pin _ _ _, p, h => by simp [toPy] at h
  | .err _ _, p, h => by simp [toPy] at h
theorem toPys_nodict : ∀ (ds : List D) (ps : List PyData), toPys ds = some ps → PyData.hasDictAll ps = false
  | [], ps, h => by simp only [toPys, Option.some.injEq] at h; subst h; simp only [PyData.hasDictAll]
  | d :: r, ps, h => by
    simp only [toPys] at h
    cases e1 : toPy d with
    | none => rw [e1] at h; cases h
    | some p =>
      cases e2 : toPys r with
      | none => rw [e1, e2] at h; cases h
      | some qs =>
        rw [e1, e2] at h
        cases h
        simp only [PyData.hasDictAll, toPy_nodict d p e1, toPys_nodict r qs e2, Bool.or_self]
end
section
variable {X : Cx} {pins : List (Addr × Obj)} {σ : St} {H : Hp} {s : Shared} {P : Addr → Prop}
mutual
theorem Rep.reads (I : Inv X pins σ H s) : ∀ (d : D) {v : V} {as : List Addr} {p : PyData} {u : Value}, Rep X.K X.w P H d v as → toPy d = some p → RelV v u → ∃ bs, Reads s.heap u p bs
  | .non, v, as, p, u, r, h, ru => by simp only [toPy, Option.some.injEq] at h; subst h; cases r; cases ru; exact ⟨_, .none⟩
  | .bl _, v, as, p, u, r, h, ru => by simp only [toPy, Option.some.injEq] at h; subst h; cases r; cases ru; exact ⟨_, .bool _⟩
  | .int _, v, as, p, u, r, h, ru => by simp only [toPy, Option.some.injEq] at h; subst h; cases r; obtain ⟨t, rfl⟩ := ru; exact ⟨_, .int _ _⟩
  | .str _, v, as, p, u, r, h, ru => by simp only [toPy, Option.some.injEq] at h; subst h; cases r; obtain ⟨t, rfl⟩ := ru; exact ⟨_, .str _ _⟩
  | .tup xs, v, as, p, u, r, h, ru => by
    simp only [toPy] at h
    cases e : toPys xs with
    | none => rw [e] at h; cases h
    | some ps =>
      rw [e] at h
      cases h
      obtain ⟨a, vs, rfl, ha, ra⟩ := r.tup_inv
      cases ru
      obtain ⟨its, rv, ⟨o, ho, hc, n, hd⟩, _⟩ := I.tuple (.of ha)
      obtain ⟨bs, rb⟩ := Reps.reads I xs ra e rv
      exact ⟨_, .tuple ho hc hd rb⟩
  | .lst _ xs, v, as, p, u, r, h, ru => by
    simp only [toPy] at h
    cases e : toPys xs with
    | none => rw [e] at h; cases h
    | some ps =>
      rw [e] at h
      cases h
      obtain ⟨a, vs, bs, rfl, ha, ra, _⟩ := r.lst_h
      cases ru
      obtain ⟨its, rv, ⟨o, n, ho, hc, _, hd⟩, _⟩ := I.list (.of ha)
      obtain ⟨bs, rb⟩ := Reps.reads I xs ra e rv
      exact ⟨_, .list ho hc hd rb⟩
  | .dic _ _, v, as, p, u, r, h, ru => by simp [toPy] at h
  | .set _, v, as, p, u, r, h, ru => by simp [toPy] at h
  | .scr _, v, as, p, u, r, h, ru => by simp [toPy] at h
  | .pin _ _ _, v, as, p, u, r, h, ru => by simp [toPy] at h
  | .err _ _, v, as, p, u, r, h, ru => by simp [toPy] at h
theorem Reps.reads (I : Inv X pins σ H s) : ∀ (ds : List D) {vs : List V} {as : List Addr} {ps : List PyData} {us : List Value}, Reps X.K X.w P H ds vs as → toPys ds = some ps → Vals vs us → ∃ bs, ReadsAll s.heap us ps bs
  | [], vs, as, ps, us, r, h, ru => by
    simp only [toPys, Option.some.injEq] at h
    subst h
    cases r
    cases ru
    exact ⟨_, .nil⟩
  | d :: ds, vs, as, ps, us, r, h, ru => by
    simp only [toPys] at h
    cases e1 : toPy d with
    | none => rw [e1] at h; cases h
    | some p =>
      cases e2 : toPys ds with
      | none => rw [e1, e2] at h; cases h
      | some qs =>
        rw [e1, e2] at h
        cases h
        obtain ⟨v, vr, a1, a2, rfl, rfl, r1, r2⟩ := r.cons_inv
        cases ru with
        | cons ru1 ru2 =>
          obtain ⟨b1, h1⟩ := Rep.reads I d r1 e1 ru1
          obtain ⟨b2, h2⟩ := Reps.reads I ds r2 e2 ru2
          exact ⟨_, .cons h1 h2⟩
end
end
/-- data whose text is told -/
def okR (d : D) : Bool := match toPy d with
  | some p => p.showable && decide (p.depth ≤ 60) && decide (p.shown.length ≤ sizeLine)
  | none => false
def dRepr (d : D) : Str := match toPy d with
  | some p => p.shown
  | none => ""
def gRepr : List D → ER
  | [.tup xs] => if okR (.tup xs) = true then .val (.str (dRepr (.tup xs))) else .stuck
  | [.lst o xs] => if okR (.lst o xs) = true then .val (.str (dRepr (.lst o xs))) else .stuck
  | [.bl b] => .val (.str (if b then "True" else "False"))
  | [.non] => .val (.str "None")
  | _ => .stuck
theorem NoX.repr : NoX gRepr := fun ds c n h => by unfold gRepr at h; split at h <;> (first | cases h | (split at h <;> cases h))
section
variable {X : Cx}
theorem repr_ref {pins : List (Addr × Obj)} {σ : St} {H : Hp} {s : Shared} {P : Addr → Prop} {d : D} {as : List Addr} {a : Addr} {Q : VK} (hu : X.A.units + 64 < cLine) (hg : X.A.guards = some []) (I : Inv X pins σ H s) (r : Rep X.K X.w P H d (.ref a) as) (ok : okR d = true) (q : Q (.str (dRepr d)) H) :
    wpAny (model X.prog X.w) X.A (call (.builtin "repr") [.ref a]) (EP X pins σ Q) X.xe s := by
  unfold okR at ok
  split at ok
  · rename_i p hp
    simp only [Bool.and_eq_true, decide_eq_true_eq] at ok
    obtain ⟨bs, rd⟩ := r.reads I d hp (u := .ref a) rfl
    refine repr_of_reads' rd ok.1.1 (PyData.noDict_hsm (toPy_nodict d p hp)) hg (by have := ok.1.2; omega) (fun _ _ e => e) (fun h' u tk k => ?_) ok.2
    have I' : Inv X pins σ H { s with heap := h', toks := tk } := I.kept (t' := tk) k
    refine ⟨.str (dRepr d), H, I', ⟨u, ?_⟩, q⟩
    unfold dRepr
    rw [hp]
  · cases ok
theorem call_repr' (hu : X.A.units + 64 < cLine) (hg : X.A.guards = some []) : CallD X (.builtin "repr") gRepr := by
  intro pins s σ H xs us Q I r h
  obtain ⟨P, as, ds, res, fz, rr, ow, hgr, q⟩ := h
  unfold gRepr at hgr
  split at hgr
  · obtain ⟨v, rfl, r1⟩ := rr.sing
    split at hgr
    · rename_i ok
      cases hgr
      obtain ⟨a, vs, rfl, ha, ra⟩ := id r1.tup_inv
      cases r with
      | cons r0 rn =>
        cases rn
        cases r0
        exact repr_ref hu hg I r1 ok (q _ H (.str _))
    · cases hgr
  · obtain ⟨v, rfl, r1⟩ := rr.sing
    split at hgr
    · rename_i ok
      cases hgr
      obtain ⟨a, vs, bs, rfl, ha, ra, _⟩ := id r1.lst_h
      cases r with
      | cons r0 rn =>
        cases rn
        cases r0
        exact repr_ref hu hg I r1 ok (q _ H (.str _))
    · cases hgr
  · obtain ⟨v, rfl, r1⟩ := rr.sing
    cases hgr
    obtain ⟨rfl, _⟩ := r1.bl_eq
    cases r with
    | cons r0 rn =>
      cases rn
      cases r0
      exact PySem.P.repr_of_bool ⟨.str _, H, I.tok _, ⟨_, rfl⟩, q _ H (.str _)⟩
  · obtain ⟨v, rfl, r1⟩ := rr.sing
    cases hgr
    cases r1
    cases r with
    | cons r0 rn =>
      cases rn
      cases r0
      exact PySem.P.repr_of_none ⟨.str _, H, I.tok _, ⟨_, rfl⟩, q _ H (.str _)⟩
  · cases hgr
end

section
variable {P : Program} {w : World} {K : PySem.W.Frag} {mg mb : Str → Option Value} {k : Nat} {fa a : Addr} {fd : FuncData} {x : Str} {F : List D → ER} {s₁ : Shared} {vs : List Value} {ns : List Int}
/-- at one abstract heap in which nothing but the script is tracked -/
theorem law_at (H : Hp) (hA : ∀ b, H b ≠ none → b = a ∧ ∃ o xs, H b = some (.frz o (.lst xs))) (hK : H a ≠ none → K.lookup a = none) (hS : Scr K H a (ns.map V.int)) (hok : HOk P w H s₁.heap)
    (KX : K.In s₁.heap) (hns : s₁.heap.Ns mainGlobals mg) (hb : s₁.heap.Ns builtinsNs mb) (hbb : ∀ x : Str, x ≠ "__name__" → mb x = bootBuiltins x) (hlim : s₁.heap.NoLimit) (hg : s₁.gens = #[])
    (ha : s₁.heap.get? a = some { cls := .type "list", data := .seq vs.toArray }) (hr : RoomG k callerA) (G : ∀ base : Heap, K.In base → base.Ns mainGlobals mg → FnG P w K mg base k fa fd [x] (spD K w mg F))
    (hbind : ∀ (s : Shared) (u : Value), BindsTo s fd ⟨[u], []⟩ [(x, u)]) (hF : F [.scr ns] = .val (.bl true)) :
    codeAny (model P w) callerA (.call (.ref fa) ⟨[.ref a], []⟩) (fun r s' => r = .ok (.ret (.bool true)) ∧ OldK s₁.heap s'.heap ∧ s'.os = s₁.os ∧ AllBare s'.gens) s₁ := by
  have dictFree : ∀ {b : Addr} {o : Obj} {es : Array DictEntry} {ep : Nat}, s₁.heap.get? b = some o → o.data = .dict es ep → H b = none := fun {b o es ep} e d => by
    cases q : H b with
    | none => rfl
    | some u =>
      obtain ⟨rfl, _⟩ := hA b (by rw [q]; exact Option.some_ne_none _)
      rw [ha] at e
      cases e
      exact absurd (show Data.seq vs.toArray 0 = Data.dict es ep from d) (fun z => by cases z)
  have nsB : ∀ {b : Addr} {m : Str → Option Value}, s₁.heap.Ns b m → (hidT s₁.heap H).Ns b m := fun {b m} ⟨o, es, ep, e, d, r⟩ => ⟨o, es, ep, hidT_get e (dictFree e d), d, r⟩
  have KB : K.In (hidT s₁.heap H) := fun b o e => hidT_get (KX b o e) (by
    cases q : H b with
    | none => rfl
    | some u =>
      obtain ⟨rfl, _⟩ := hA b (by rw [q]; exact Option.some_ne_none _)
      rw [hK (by rw [q]; exact Option.some_ne_none _)] at e
      cases e)
  have md : Mod K mg (hidT s₁.heap H) := ⟨KB, nsB hns, ⟨mb, nsB hb, hbb⟩, let ⟨mc, h1, h2⟩ := hlim; ⟨mc, nsB h1, h2⟩⟩
  have e0 : Env0 P w K mg (hidT s₁.heap H) callerA [] s₁ H := ⟨rfl, md, fun b o e => of_hidT e, Nat.le_of_eq (hidT_size _ _), trivial, fun b hb => absurd (show b ∈ ([] : List Addr) from hb) (by simp), hok, .of_eq hg⟩
  have sp : spD K w mg F [.ref a] H (fun v _ => v = .bl true) fun _ _ _ => False := by
    refine ⟨fun _ => False, [.scr ns], fun _ z => z.elim, .cons (as := []) (bs := []) (.scr hS) .nil, ?_⟩
    rw [hF]
    rintro v H' ⟨_, _, _, r, _⟩
    cases r
    rfl
  refine codeAny_mono ((G _ KB (nsB hns)).run callerA [] s₁ H ⟨[.ref a], []⟩ [.ref a] [.ref a] _ _ hr e0 (hbind s₁ (.ref a)) (.cons rfl .nil) sp) fun r s' h => ?_
  cases r with
  | error e =>
    obtain ⟨_, _, _, _, _, _, _, _, _, _, _, _, z⟩ := h
    exact z.elim
  | ok fl =>
    cases fl with
    | ret u =>
      obtain ⟨v, H', os, bare, un, hok', r', q⟩ := h
      have q' : v = .bl true := q
      subst q'
      obtain rfl : u = Value.bool true := r'
      refine ⟨rfl, OldK.of_keep fun b o e => ?_, os, bare⟩
      cases q : H b with
      | none => exact un.keep b o e q (fun z => absurd (show b ∈ ([] : List Addr) from z) (by simp)) (by simp)
      | some u =>
        obtain ⟨_, ob, xs, z⟩ := hA b (by rw [q]; exact Option.some_ne_none _)
        obtain ⟨e1, _⟩ := hok b _ z
        obtain ⟨e2, _⟩ := hok' b _ (un.frzs b ob _ z)
        rw [e] at e1
        cases e1
        exact e2
    | next => exact False.elim h
    | brk => exact False.elim h
    | cont => exact False.elim h
theorem law_callG (KX : K.In s₁.heap) (hns : s₁.heap.Ns mainGlobals mg) (hb : s₁.heap.Ns builtinsNs mb) (hbb : ∀ x : Str, x ≠ "__name__" → mb x = bootBuiltins x) (hlim : s₁.heap.NoLimit) (hg : s₁.gens = #[])
    (ha : s₁.heap.get? a = some { cls := .type "list", data := .seq vs.toArray }) (hi : IntsAre vs ns) (hl : ns.length ≤ sizeLine) (hr : RoomG k callerA) (G : ∀ base : Heap, K.In base → base.Ns mainGlobals mg → FnG P w K mg base k fa fd [x] (spD K w mg F))
    (hbind : ∀ (s : Shared) (u : Value), BindsTo s fd ⟨[u], []⟩ [(x, u)]) (hF : F [.scr ns] = .val (.bl true)) :
    codeAny (model P w) callerA (.call (.ref fa) ⟨[.ref a], []⟩) (fun r s' => r = .ok (.ret (.bool true)) ∧ OldK s₁.heap s'.heap ∧ s'.os = s₁.os ∧ AllBare s'.gens) s₁ := by
  have rv := vals_ints hi
  by_cases hk : ∃ o, K.lookup a = some o
  · obtain ⟨o, hk⟩ := hk
    have e := KX a o hk
    rw [ha] at e
    cases e
    exact law_at (fun _ => none) (fun b z => absurd rfl z) (fun z => absurd rfl z) (.inr ⟨_, vs.toArray, _, hk, rfl, rfl, rfl, by rw [List.size_toArray, hi.length]; exact hl, by simpa using rv⟩) (fun b u z => by cases z) KX hns hb hbb hlim hg ha hr G hbind hF
  · have hn : K.lookup a = none := by
      cases e : K.lookup a with
      | none => rfl
      | some o => exact absurd ⟨o, e⟩ hk
    have up : ∀ b u, (L2.upd (fun _ => none) a (.frz { cls := .type "list", data := .seq vs.toArray } (.lst (ns.map V.int)))) b = some u → b = a ∧ u = .frz { cls := .type "list", data := .seq vs.toArray } (.lst (ns.map V.int)) := fun b u z => by
      by_cases hba : b = a
      · subst hba
        rw [upd_same] at z
        exact ⟨rfl, (Option.some.inj z).symm⟩
      · rw [upd_ne hba] at z; cases z
    refine law_at (L2.upd (fun _ => none) a (.frz { cls := .type "list", data := .seq vs.toArray } (.lst (ns.map V.int)))) (fun b z => ?_) (fun _ => hn) (.inl ⟨_, upd_same⟩) (fun b u z => ?_) KX hns hb hbb hlim hg ha hr G hbind hF
    · obtain ⟨u, hu⟩ := Option.ne_none_iff_exists'.mp z
      obtain ⟨rfl, rfl⟩ := up b u hu
      exact ⟨rfl, _, _, hu⟩
    · obtain ⟨rfl, rfl⟩ := up b u z
      exact ⟨ha, by rw [List.length_map]; exact hl, vs, _, rv, ha⟩
end
/-- the goal that k_head leaves (case hc) -/
theorem walk_ofG {l : PySem.W.OpenLaw} {n k : Nat} {q : Program} {loose : List Str} {XP : (Str → Option Value) → Heap → Prop} {YP : World → Heap → Prop} {d : DefRec} {K : Params → PySem.W.Frag} {F : List D → ER} {x : Str}
    (hn : l.most = some n) (hn2 : n ≤ sizeLine) (hdf : d.params.defaults = []) (hr : Room k callerA) (hY : ∀ (w : World) (h : Heap), YP w h → (K w.params).In h)
    (G : ∀ (w : World) (mg : Str → Option Value) (fa : Addr) (h : Heap), (K w.params).In h → h.Ns mainGlobals mg → mg d.name = some (.ref fa) →
      ∃ fd : FuncData, (∀ (s : Shared) (u : Value), BindsTo s fd ⟨[u], []⟩ [(x, u)]) ∧ ∀ base : Heap, (K w.params).In base → base.Ns mainGlobals mg → FnG l.prog w (K w.params) mg base k fa fd [x] (spD (K w.params) w mg F))
    (hF : ∀ ns : List Int, ns.length ≤ n → F [.scr ns] = .val (.bl true)) :
    PySem.W.WalkO q loose XP YP l.row.toRowW d [] (fun f vs => PySem.call f vs) := by
  refine Att.attach_call hn hdf fun w s₀ s₁ mg mb fa o pm cd doc a vs ns GD Y ho hd hcd hmg hobj hints hlen hg => ?_
  have KX := hY w _ Y
  obtain ⟨fd, hb, hG⟩ := G w mg fa _ KX GD.T.g hmg
  exact law_callG KX GD.T.g GD.T.b GD.T.builtins GD.T.nolimit hg hobj hints (Nat.le_trans hlen hn2) ⟨hr, rfl⟩ hG hb (hF ns hlen)
end DL

set_option Elab.async false
set_option linter.all false
set_option maxRecDepth 100000
set_option maxHeartbeats 1000000
namespace DL
open PySem PySem.Spec L2
open PyProof.Rows hiding St

/-- the def x stands at f, of the statement st -/
structure DefAt (K : PySem.W.Frag) (mg : Str → Option Value) (x : Str) (st : Stmt) (ps : List Str) : Prop where
  ex : ∃ (f : Addr) (fd : FuncData), Fun K x x st f fd ∧ mg x = some (.ref f) ∧ Binds K fd ps []
/-- the def x keeps its promise -/
def OkD (P : Program) (w : World) (K : PySem.W.Frag) (mg : Str → Option Value) (base : Heap) (k : Nat) (x : Str) (ps : List Str) (F : List D → ER) : Prop :=
  ∃ (f : Addr) (fd : FuncData), mg x = some (.ref f) ∧ PySem.W.keepIn K (.ref f) = true ∧ Binds K fd ps [] ∧ FnG P w K mg base k f fd ps (spD K w mg F)
theorem OkD.mk' {P : Program} {w : World} {K : PySem.W.Frag} {mg : Str → Option Value} {base : Heap} {x : Str} {st : Stmt} {N ps : List Str} {k : Nat} {G : Sv} (T : DefAt K mg x st ps) (S : FnScope N ps (defScope st))
    (hbody : ∀ (f : Addr) (cdv : Value) (A : Around) (outer : List PySem.Env) (s : Shared) (H : Hp) (E : XK) (P0 : Addr → Prop) (fz : Fz P0 H), RoomG k (A.deeper (envOfC x (defScope st) s.heap.objs.size f cdv)) →
      DSs (cxOf (L2.CX P w) P w K mg base N x (defScope st) f cdv A outer s H E) ⟨ltF K w mg E, H, P0, fz⟩ (defBody st) G) : OkD P w K mg base (k + 1) x ps (runF N.length ps.length G) := by
  obtain ⟨f, fd, F, hm, hb⟩ := T.ex
  exact ⟨f, fd, hm, F.kp, hb, fn_ofG F S fun cdv A outer s H E P0 fz hr => hbody f cdv A outer s H E P0 fz hr⟩
section
variable {X : Cx} {W : WX} {B : Fx} {e a b c : Expr} {es : List Expr} {pos : Pos} {f1 f2 f3 : Ev} {l : Lv} {r1 r2 r3 rd : List Nat}
theorem de_callO {k : Nat} {ps : List Str} {F : List D → ER} {x : Str} {p : Pos} {kk : Nat} (dx : Dx X W kk) (G : OkD X.prog X.w X.K X.mg X.base k x ps F) (hkk : k ≤ kk) (hg : Gl X x) (ha : DA X W (e :: es) rd l) (hdb : (x == ("__debug__" : Str)) = false := by decide)
    (he : starEach (e :: es) X.env = (false, eval e X.env) :: starEach es X.env := by rfl) (hpl : (backTo pos (starEach es X.env)).any (·.1) = false := by rfl) :
    DE X W (.Call (.Name x p) (e :: es) [] pos) rd (eF F l) := by
  obtain ⟨f, fd, hm, hk, hb, G⟩ := G
  exact de_call dx G hkk hm hk hb hg ha hdb he hpl

/-- both values, then both stores -/
def sPar (i j : Nat) (l : MLv) : Sv := fun ρ => match l ρ with
  | .vals [d, e] ρ' => .nx ((ρ'.set i (some d)).set j (some e))
  | .exc c n ρ' => .exc c n ρ'
  | _ => .stuck
theorem ds_par {i j : Nat} {x y : Str} {px py pt : Pos} {kt k2 : Nat} {pt2 : Pos} {l : MLv} (hc : X.calm = true) (hN : X.N.Nodup) (hi : X.N[i]? = some x) (hj : X.N[j]? = some y) (hij : i ≠ j)
    (hx : X.env.scope.names.lookup x = some .local) (hy : X.env.scope.names.lookup y = some .local) (ha : DML X B [a, b] l)
    (hw : swappedStores [.Tuple [.Name x px, .Name y py] kt pt] (.Tuple [a, b] k2 pt2) X.env = pure (some [x, y]) := by rfl)
    (hs : swapsWithSole [.Tuple [.Name x px, .Name y py] kt pt] (.Tuple [a, b] k2 pt2) pos.line X.env = pure false := by rfl) :
    DS X B (.Assign [.Tuple [.Name x px, .Name y py] kt pt] (.Tuple [a, b] k2 pt2) pos) (sPar i j l) := PSi (ps_par hc hN hi hj hij hx hy ha hw hs) fun D σ H ⟨ρ, fr, fvs, r, q⟩ => by
  refine ⟨ρ, fr, fvs, r, ?_⟩
  unfold sPar at q
  cases hl : l ρ with
  | exc c n ρ' => rw [hl] at q; exact fun cls d H' r' x => q cls d σ H' r' x
  | stuck => rw [hl] at q; exact q.elim
  | vals ds ρ' =>
    rw [hl] at q
    intro vs H' r'
    have ln : ds.length = vs.length := by
      have a := r'.lens
      have b := r.lens
      simp only [List.length_append] at a
      omega
    match ds, vs, ln with
    | [d, e], [v, u], _ => exact ⟨v, u, rfl, q _ _ ((r'.put i).put j)⟩
    | [], [], _ => exact q.elim
    | [_], [_], _ => exact q.elim
    | _ :: _ :: _ :: _, _ :: _ :: _ :: _, _ => exact q.elim

def clsAddr (mg : Str → Option Value) (c : Str) : Addr := match mg c with
  | some (.ref a) => a
  | _ => 0
def WayAt (P : Program) (K : PySem.W.Frag) (mg : Str → Option Value) (c : Str) : Prop := ∃ fI D cc, PySem.WayX.WayTxt P K mg c (clsAddr mg c) fI D cc
theorem WayAt.mk {P : Program} {K : PySem.W.Frag} {mg : Str → Option Value} {c : Str} {C fI D cc : Addr} (T : PySem.WayX.WayTxt P K mg c C fI D cc) : WayAt P K mg c := by
  have : clsAddr mg c = C := by unfold clsAddr; rw [T.gC]
  exact ⟨fI, D, cc, by rw [this]; exact T⟩
def TblOk (K : PySem.W.Frag) (mg : Str → Option Value) (tbl : List (Str × Option Nat)) (cls : List Str) : Prop := ∀ c r, tbl.lookup c = some r → ∃ C, WayCls K mg c C ∧ catchOk K C (cls.map fun c => .ref (clsAddr mg c)) r
theorem ds_raiseO {k : Nat} {f : Ev} {nC : Str} {p pos2 : Pos} (dx : Dx X B.L.W (k + 1)) (hL : B.L = lt X B.L.W) (T : WayAt X.prog X.K X.mg nC) (ha : PE X a (tE B.L rd f)) (hg : Gl X nC) (hd : (nC == ("__debug__" : Str)) = false := by decide)
    (he : starEach (a :: []) X.env = (false, eval a X.env) :: starEach [] X.env := by rfl) (hpl : (backTo pos (starEach [] X.env)).any (·.1) = false := by rfl) :
    DS X B (.Raise (some (.Call (.Name nC p) [a] [] pos)) none pos2) (sRaise nC f) := by
  obtain ⟨fI, Dw, cc, T⟩ := T
  exact ds_raise dx hL T ha hg hd he hpl
theorem names_way {c : Str} (T : WayAt X.prog X.K X.mg c) (hg : Gl X c) (hd : (c == ("__debug__" : Str)) = false := by decide) : Names X c (.ref (clsAddr X.mg c)) := by
  obtain ⟨fI, Dw, cc, T⟩ := T
  exact ⟨hg, hd, .inl T.gC⟩
theorem dx_tr {k : Nat} {W' : WX} {pn : List (Addr × Obj)} {xe : Value → Shared → Prop} (dx : Dx X W k) (tk : Takes (X.tr pn xe) W') : Dx (X.tr pn xe) W' k := ⟨tk, dx.calm, dx.nd, dx.gd, dx.rm⟩
end
end DL

set_option Elab.async false
set_option linter.all false
set_option maxRecDepth 100000
set_option maxHeartbeats 1000000
namespace DL
open PySem PySem.Spec L2
open PyProof.Rows hiding St
section
variable {P : Program} {K : PySem.W.Frag} {mg : Str → Option Value} {h : Heap}
theorem DefAt.of (X : K.In h) (G : h.Ns mainGlobals mg) {x : Str} {st : Stmt} {ps : List Str} {f : Addr} {oc : Value} {od an : Option Addr} {osl : Array (Option Value)} {kV doc pm cdv ct : Value}
    (a : PySem.W.nsIn K mainGlobals x = some (some (.ref f))) (l : K.lookup f = some ⟨oc, od, .func (PySem.W.fnOf x x (defArgs st) (defBody st) (defScope st) .none kV doc pm an cdv ct), osl⟩)
    (c : PySem.W.codeIn K cdv x = true) (k : PySem.W.keepIn K (.ref f) = true)
    (b : ∀ (kV doc pm : Value) (an : Option Addr) (cdv ct : Value) (us : List Value), us.length = ps.length → bindArgs (PySem.W.fnOf x x (defArgs st) (defBody st) (defScope st) .none kV doc pm an cdv ct) ⟨us, []⟩ = pure (ps.zip us)) : DefAt K mg x st ps :=
  ⟨f, _, fun_mk l c k, PySem.W.mg_of X G a, (fun_mk l c k).binds b⟩
theorem WayAt.of (X : K.In h) (G : h.Ns mainGlobals mg) {c : Str} {C fI D cc cda : Addr} {nm q : Str} {N : Addr} {bs bm : List Value} {sn : List Str} {sub : List Value} {ab : Bool} {col : Option Bool} {dd : Option Addr} {k0 k1 k2 k3 k5 : Option Value}
    {oc doc pm ct : Value} {od an : Option Addr} {osl : Array (Option Value)} {p1 p2 q1 q2 q3 q4 q5 q6 q7 q8 q9 q10 : Pos} {cl : Value} {cld : Option Addr} {csl : Array (Option Value)} {ccl : Value} {cdd : Option Addr} {vs : Array Value} {ccs : Array (Option Value)} {file : Str} {tf : Tok}
    (aC : PySem.W.nsIn K mainGlobals c = some (some (.ref C))) (xL : K.lookup C = some (excClassObj nm q C N bs bm true sn sub ab col dd k0 k1 k2 k3 k5 "ValueError.__new__")) (bmOk : HandSPX.refsVE bm = true)
    (sa : PySem.W.findIn K (.ref C) "__setattr__" = some (some (.builtin "object.__setattr__"))) (ga : PySem.W.findIn K (.ref C) "__getattribute__" = some (some (.builtin "BaseException.__getattribute__"))) (gg : PySem.W.findIn K (.ref C) "__getattr__" = some none) (noN : PySem.W.findIn K (.ref C) "at" = some none)
    (iC : PySem.W.findIn K (.ref C) "__init__" = some (some (.ref fI))) (tC : PySem.W.typeIn K (.ref fI) = some (.type "function")) (kC : PySem.W.keepIn K (.ref C) = true) (exC : PySem.W.subIn K (.ref C) (.type "BaseException") = some true) (tyC : PySem.W.typeIn K (.ref C) = some (.type "type")) (hdC : PySem.W.hasDictIn K C = true)
    (l : K.lookup fI = some ⟨oc, od, .func (PySem.W.ksFn "__init__" "WayError.__init__" (PySem.WayX.iA p1 p2) (PySem.WayX.iB q1 q2 q3 q4 q5 q6 q7 q8 q9 q10) PySem.WayX.iS .none .none doc pm an (.ref cda) ct cc), osl⟩) (hc : PySem.W.codeIn K (.ref cda) "WayError.__init__" = true)
    (cell : K.lookup cc = some ⟨cl, cld, .cell (some (.ref D)), csl⟩) (code : K.lookup cda = some ⟨ccl, cdd, .fields vs, ccs⟩) (hvs : vs[2]? = some (.str file tf)) (hfile : ((P.main.file : Str) == file) = true) (hline : (q3.endLine == q5.line) = true)
    (sup : PySem.W.ks_superIn K C D "__init__" = some (some (.builtin "ValueError.__init__"))) (subV : PySem.W.subIn K (.ref C) (.type "ValueError") = some true) (mroD : PySem.W.mroIn K C (.ref D) = some true) (clD : PySem.W.isClsIn K D = true)
    (opq : PySem.W.nsIn K cStatics "thirdparty.any" = some none) (noS : PySem.W.nsIn K mainGlobals "super" = some none) (top : (P.main.scope.names.lookup ("super" : Str)).isSome = false) : WayAt P K mg c :=
  .mk (C := C) (fI := fI) (D := D) (cc := cc) ⟨PySem.W.mg_of X G aC, ⟨nm, q, N, bs, bm, sn, sub, ab, col, dd, k0, k1, k2, k3, k5, xL, bmOk⟩, sa, ga, gg, noN, iC, tC, kC, exC, tyC, hdC, sup, subV, mroD, clD, opq, PySem.W.mg_none_of X G noS, top,
    ⟨oc, od, doc, pm, an, cda, ct, osl, p1, p2, q1, q2, q3, q4, q5, q6, q7, q8, q9, q10, cl, cld, csl, ccl, cdd, vs, ccs, file, tf, hline, l, hc, cell, code, hvs, hfile⟩⟩
theorem clsAddr_of (X : K.In h) (G : h.Ns mainGlobals mg) {c : Str} {C : Addr} (aC : PySem.W.nsIn K mainGlobals c = some (some (.ref C))) : clsAddr mg c = C := by
  unfold clsAddr
  rw [PySem.W.mg_of X G aC]
theorem exm_of (X : K.In h) (G : h.Ns mainGlobals mg) {c c' : Str} {C C' : Addr} {b : Bool} (aC : PySem.W.nsIn K mainGlobals c = some (some (.ref C))) (aC' : PySem.W.nsIn K mainGlobals c' = some (some (.ref C'))) (h1 : PySem.W.subIn K (.ref C') (.type "BaseException") = some true) (hd : PySem.W.hasDictIn K C' = true)
    (ht : PySem.W.typeIn K (.ref C') = some (.type "type")) (h4 : PySem.W.subIn K (.ref C) (.ref C') = some b) : PySem.W.exmOne K (.ref (clsAddr mg c)) (.ref (clsAddr mg c')) = some b := by
  rw [clsAddr_of X G aC, clsAddr_of X G aC']
  exact PySem.W.exm_ref h1 hd ht h4
theorem WayAt.cls {c : Str} (T : WayAt P K mg c) : WayCls K mg c (clsAddr mg c) := by
  obtain ⟨fI, D, cc, T⟩ := T
  exact ⟨T.gC, ⟨T.ga, T.gg, T.exC, T.hdC⟩, T.noN⟩
theorem TblOk.nil {cls : List Str} : TblOk K mg [] cls := fun c r h => by cases h
theorem TblOk.cons {c : Str} {r : Option Nat} {tbl : List (Str × Option Nat)} {cls : List Str} (T : WayAt P K mg c) (hk : catchOk K (clsAddr mg c) (cls.map fun c => .ref (clsAddr mg c)) r) (t : TblOk K mg tbl cls) : TblOk K mg ((c, r) :: tbl) cls := fun c' r' h => by
  rw [List.lookup_cons] at h
  split at h
  · rename_i e
    cases h
    have : c' = c := by simpa using e
    subst this
    exact ⟨_, T.cls, hk⟩
  · exact t c' r' h
end
end DL

set_option Elab.async false
set_option linter.all false
set_option maxRecDepth 100000
set_option maxHeartbeats 2000000
namespace DL
open PySem PySem.Spec L2
open PyProof.Rows hiding St

theorem sSeq_nx {f g : Sv} {ρ ρ' : Env} (h : f ρ = .nx ρ') : sSeq f g ρ = g ρ' := by unfold sSeq; rw [h]
theorem sSeq_ret {f g : Sv} {ρ : Env} {d : D} (h : f ρ = .ret d) : sSeq f g ρ = .ret d := by unfold sSeq; rw [h]
theorem sSeq_exc {f g : Sv} {ρ ρ' : Env} {c : Str} {n : Int} (h : f ρ = .exc c n ρ') : sSeq f g ρ = .exc c n ρ' := by unfold sSeq; rw [h]
theorem runF_eq {N n : Nat} {F : Sv} {ds : List D} (h : ds.length = n) : runF N n F ds = (match F (ds.map some ++ List.replicate (N - n) none) with
  | .ret d => .val d
  | .nx _ => .val .non
  | .exc c k _ => .exc c k
  | _ => .stuck) := by unfold runF; rw [if_pos h] <;> rfl
theorem gI2_val {C : Int → Int → Prop} [∀ i j, Decidable (C i j)] {f : Int → Int → D} {i j : Int} (h : C i j) : gI2 C f [.int i, .int j] = .val (f i j) := by
  unfold gI2; simp [h]
theorem log2_lt {n k : Nat} (h : n < 2 ^ k) (hk : 0 < k) : n.log2 < k := by
  by_cases h0 : n = 0
  · subst h0; simpa using hk
  · exact (Nat.log2_lt h0).mpr h
theorem mulOk_of {i j : Int} {a b : Nat} (hi : i.natAbs < 2 ^ a) (hj : j.natAbs < 2 ^ b) (h : a + b ≤ 1000000) (ha : 0 < a) (hb : 0 < b) : MulOk i j := by
  unfold MulOk
  have := log2_lt hi ha
  have := log2_lt hj hb
  omega
theorem divOk_of {i j : Int} {b : Nat} (h0 : j ≠ 0) (hj : j.natAbs < 2 ^ b) (h : b ≤ 9000) (hb : 0 < b) : DivOk i j := by
  refine ⟨h0, ?_⟩
  have := log2_lt hj hb
  omega
end DL

set_option Elab.async false
set_option linter.all false
set_option maxRecDepth 100000
set_option maxHeartbeats 2000000
namespace DL
open PySem PySem.Spec L2
open PyProof.Rows hiding St

def qd (r : Rat) : D := .tup [.int r.num, .int (r.den : Int)]
theorem fz_qd (r : Rat) : (qd r).fz = qd r := by simp [qd, D.fz, fzs]
theorem cln_qd (r : Rat) : (qd r).clean = true := by simp [qd, D.clean, cleans]
theorem qd_inj {a b : Rat} : qd a = qd b ↔ a = b := by
  constructor
  · intro h
    simp only [qd, D.tup.injEq, List.cons.injEq, D.int.injEq, and_true] at h
    exact Rat.ext h.1 (by omega)
  · rintro rfl; rfl
theorem gcd_fd (n : Int) (d : Nat) (hd : d ≠ 0) : n.fdiv ((Nat.gcd n.natAbs d : Nat) : Int) = (Rat.divInt n d).num ∧ (d : Int).fdiv ((Nat.gcd n.natAbs d : Nat) : Int) = ((Rat.divInt n d).den : Int) := by
  have hg : 0 < Nat.gcd n.natAbs d := Nat.gcd_pos_of_pos_right _ (Nat.pos_of_ne_zero hd)
  rw [Rat.num_divInt, Rat.den_divInt, if_neg (by omega)]
  have e : Int.gcd (d : Int) n = Nat.gcd n.natAbs d := by rw [Int.gcd_comm]; simp [Int.gcd]
  rw [e, Int.sign_eq_one_of_pos (by omega), Int.one_mul, Int.fdiv_eq_ediv_of_nonneg _ (by omega), Int.fdiv_eq_ediv_of_nonneg _ (by omega)]
  refine ⟨rfl, ?_⟩
  simp
theorem on_den {r : Rat} {N : Nat} (hN : N ≠ 0) {k : Int} (h : r * (N : Rat) = (k : Rat)) : r.den ∣ N := by
  have : r = Rat.divInt k N := by
    rw [Rat.divInt_eq_div, Rat.intCast_natCast]
    have : (N : Rat) ≠ 0 := by exact_mod_cast hN
    grind
  rw [this, Rat.den_divInt, if_neg (by omega)]
  simp only [Int.natAbs_natCast]
  exact Nat.div_dvd_of_dvd (Int.natCast_dvd_natCast.mp (Int.gcd_dvd_left ..))
theorem num_le {r : Rat} {M : Nat} (h : r ≤ (M : Rat)) : r.num ≤ M * r.den := by
  have := (Rat.le_iff _ _).mp h
  simpa using this
theorem le_num {r : Rat} {M : Nat} (h : -(M : Rat) ≤ r) : -(M * r.den : Int) ≤ r.num := by
  have := (Rat.le_iff _ _).mp h
  simp at this
  rw [← Int.neg_mul]
  exact this

/-- small: its denominator goes into N, it lies within M of 0 -/
structure Sm (N M : Nat) (r : Rat) : Prop where
  on : ∃ k : Int, r * (N : Rat) = (k : Rat)
  le : r ≤ (M : Rat)
  ge : -(M : Rat) ≤ r
theorem Sm.den {N M : Nat} {r : Rat} (h : Sm N M r) (hN : N ≠ 0) : r.den ≤ N := by
  obtain ⟨k, hk⟩ := h.on
  exact Nat.le_of_dvd (Nat.pos_of_ne_zero hN) (on_den hN hk)
theorem Sm.num {N M : Nat} {r : Rat} (h : Sm N M r) (hN : N ≠ 0) : r.num.natAbs ≤ M * N := by
  have a := num_le h.le
  have b := le_num h.ge
  have c : M * r.den ≤ M * N := Nat.mul_le_mul_left _ (h.den hN)
  have d : ((M * r.den : Nat) : Int) = (M : Int) * (r.den : Int) := by simp
  omega
theorem Sm.add {N M M' : Nat} {a b : Rat} (h : Sm N M a) (h' : Sm N M' b) : Sm N (M + M') (a + b) := by
  obtain ⟨⟨k, hk⟩, h1, h2⟩ := h
  obtain ⟨⟨j, hj⟩, h3, h4⟩ := h'
  refine ⟨⟨k + j, ?_⟩, ?_, ?_⟩
  · rw [Rat.intCast_add]; grind
  · rw [Rat.natCast_add]; grind
  · rw [Rat.natCast_add]; grind
theorem Sm.sub {N M M' : Nat} {a b : Rat} (h : Sm N M a) (h' : Sm N M' b) : Sm N (M + M') (a - b) := by
  obtain ⟨⟨k, hk⟩, h1, h2⟩ := h
  obtain ⟨⟨j, hj⟩, h3, h4⟩ := h'
  refine ⟨⟨k - j, ?_⟩, ?_, ?_⟩
  · rw [Rat.intCast_sub]; grind
  · rw [Rat.natCast_add]; grind
  · rw [Rat.natCast_add]; grind
/-- small enough for any one step -/
structure Sz (r : Rat) : Prop where
  num : r.num.natAbs < 2 ^ 400
  den : r.den < 2 ^ 400
theorem Sm.sz {N M : Nat} {r : Rat} (h : Sm N M r) (hN : N ≠ 0) (h1 : M * N < 2 ^ 400) (h2 : N < 2 ^ 400) : Sz r := ⟨Nat.lt_of_le_of_lt (h.num hN) h1, Nat.lt_of_le_of_lt (h.den hN) h2⟩

theorem natAbs_mul_lt {i j : Int} {a b : Nat} (h : i.natAbs < 2 ^ a) (h' : j.natAbs < 2 ^ b) : (i * j).natAbs < 2 ^ (a + b) := by
  rw [Int.natAbs_mul, Nat.pow_add]
  exact Nat.mul_lt_mul_of_lt_of_le h (Nat.le_of_lt h') (Nat.two_pow_pos b)
theorem natAbs_add_lt {i j : Int} {a : Nat} (h : i.natAbs < 2 ^ a) (h' : j.natAbs < 2 ^ a) : (i + j).natAbs < 2 ^ (a + 1) := by
  have := Int.natAbs_add_le i j
  rw [Nat.pow_succ]; omega
theorem natAbs_sub_lt {i j : Int} {a : Nat} (h : i.natAbs < 2 ^ a) (h' : j.natAbs < 2 ^ a) : (i - j).natAbs < 2 ^ (a + 1) := by
  have := Int.natAbs_sub_le i j
  rw [Nat.pow_succ]; omega
theorem gMul_val {i j : Int} {a b : Nat} (hi : i.natAbs < 2 ^ a) (hj : j.natAbs < 2 ^ b) (h : a + b ≤ 1000000) (ha : 0 < a) (hb : 0 < b) : gMul [.int i, .int j] = .val (.int (i * j)) := gI2_val (mulOk_of hi hj h ha hb)
theorem gDiv_val {i j : Int} {b : Nat} (h0 : j ≠ 0) (hj : j.natAbs < 2 ^ b) (h : b ≤ 9000) (hb : 0 < b) : gDiv [.int i, .int j] = .val (.int (i.fdiv j)) := gI2_val (divOk_of h0 hj h hb)
theorem gMod_val {i j : Int} (h0 : j ≠ 0) : gMod [.int i, .int j] = .val (.int (i.fmod j)) := gI2_val h0
theorem gSub_val {i j : Int} : gSub [.int i, .int j] = .val (.int (i - j)) := gI2_val trivial
theorem gAdd_val {i j : Int} : gAdd [.int i, .int j] = .val (.int (i + j)) := rfl
theorem gLt_val {i j : Int} : gLt [.int i, .int j] = .val (.bl (decide (i < j))) := gI2_val trivial
theorem gGt_val {i j : Int} : gGt [.int i, .int j] = .val (.bl (decide (j < i))) := gI2_val trivial
theorem gLe_val {i j : Int} : gLe [.int i, .int j] = .val (.bl (decide (i ≤ j))) := gI2_val trivial
theorem gGe_val {i j : Int} : gGe [.int i, .int j] = .val (.bl (decide (j ≤ i))) := gI2_val trivial

mutual
/-- ints, None, tuples and lists of such -/
def D.pl : D → Bool
  | .int _ => true | .non => true | .tup xs => pls xs | .lst _ xs => pls xs | _ => false
def pls : List D → Bool
  | [] => true
  | d :: r => d.pl && pls r
end
mutual
def D.dp : D → Nat
  | .tup xs => dps xs + 1 | .lst _ xs => dps xs + 1 | _ => 0
def dps : List D → Nat
  | [] => 0
  | d :: r => max d.dp (dps r)
end
mutual
theorem pl_py : ∀ d : D, d.pl = true → ∃ p, toPy d = some p ∧ p.canLay0 = true ∧ p.depth = d.dp
  | .int i, _ => ⟨.int i, by simp [toPy], by simp [PyData.canLay0], by simp [PyData.depth, D.dp]⟩
  | .non, _ => ⟨.none, by simp [toPy], by simp [PyData.canLay0], by simp [PyData.depth, D.dp]⟩
  | .tup xs, h => by
    obtain ⟨ps, e, a, b⟩ := pls_py xs (by simpa [D.pl] using h)
    exact ⟨.tuple ps, by simp [toPy, e], by simpa [PyData.canLay0] using a, by simp [PyData.depth, D.dp, b]⟩
  | .lst _ xs, h => by
    obtain ⟨ps, e, a, b⟩ := pls_py xs (by simpa [D.pl] using h)
    exact ⟨.list ps, by simp [toPy, e], by simpa [PyData.canLay0] using a, by simp [PyData.depth, D.dp, b]⟩
  | .bl _, h => by simp [D.pl] at h
  | .str _, h => by simp [D.pl] at h
  | .dic _ _, h => by simp [D.pl] at h
  | .set _, h => by simp [D.pl] at h
  | .scr _, h => by simp [D.pl] at h
  | .pin _ _ _, h => by simp [D.pl] at h
  | .err _ _, h => by simp [D.pl] at h
theorem pls_py : ∀ xs : List D, pls xs = true → ∃ ps, toPys xs = some ps ∧ PyData.canLayAll0 ps = true ∧ PyData.depthAll ps = dps xs
  | [], _ => ⟨[], by simp [toPys], by simp [PyData.canLayAll0], by simp [PyData.depthAll, dps]⟩
  | d :: r, h => by
    simp only [pls, Bool.and_eq_true] at h
    obtain ⟨p, e, a, b⟩ := pl_py d h.1
    obtain ⟨ps, e', a', b'⟩ := pls_py r h.2
    exact ⟨p :: ps, by simp [toPys, e, e'], by simp [PyData.canLayAll0, a, a'], by simp [PyData.depthAll, dps, b, b']⟩
end
theorem okD_pl {d : D} (h : d.pl = true) (hd : d.dp ≤ 64) : okD d = true := by
  obtain ⟨p, e, a, b⟩ := pl_py d h
  unfold okD
  rw [e]
  simp [SeqAt.shaped, a, b, hd]
mutual
theorem eqv_pl : ∀ (d e : D) (p q : PyData), d.pl = true → e.pl = true → toPy d = some p → toPy e = some q → (PyData.eqv p q = true ↔ d.fz = e.fz)
  | .int i, e, p, q, _, h2, h3, h4 => by
    simp only [toPy, Option.some.injEq] at h3; subst h3
    cases e <;> simp [D.pl] at h2 <;> simp [toPy] at h4 <;> (try subst h4) <;> (try (obtain ⟨ps, _, rfl⟩ := h4)) <;> simp [PyData.eqv, D.fz]
  | .non, e, p, q, _, h2, h3, h4 => by
    simp only [toPy, Option.some.injEq] at h3; subst h3
    cases e <;> simp [D.pl] at h2 <;> simp [toPy] at h4 <;> (try subst h4) <;> (try (obtain ⟨ps, _, rfl⟩ := h4)) <;> simp [PyData.eqv, D.fz]
  | .tup xs, e, p, q, h1, h2, h3, h4 => by
    simp only [toPy, Option.map_eq_some_iff] at h3
    obtain ⟨ps, e1, rfl⟩ := h3
    cases e with
    | tup ys =>
      simp only [toPy, Option.map_eq_some_iff] at h4
      obtain ⟨qs, e2, rfl⟩ := h4
      simp only [PyData.eqv, D.fz, D.tup.injEq]
      exact eqvs_pl xs ys ps qs (by simpa [D.pl] using h1) (by simpa [D.pl] using h2) e1 e2
    | _ => simp [D.pl] at h2 <;> simp [toPy] at h4 <;> (try subst h4) <;> (try (obtain ⟨ps, _, rfl⟩ := h4)) <;> simp [PyData.eqv, D.fz]
  | .lst _ xs, e, p, q, h1, h2, h3, h4 => by
    simp only [toPy, Option.map_eq_some_iff] at h3
    obtain ⟨ps, e1, rfl⟩ := h3
    cases e with
    | lst o ys =>
      simp only [toPy, Option.map_eq_some_iff] at h4
      obtain ⟨qs, e2, rfl⟩ := h4
      simp only [PyData.eqv, D.fz, D.lst.injEq, true_and]
      exact eqvs_pl xs ys ps qs (by simpa [D.pl] using h1) (by simpa [D.pl] using h2) e1 e2
    | _ => simp [D.pl] at h2 <;> simp [toPy] at h4 <;> (try subst h4) <;> (try (obtain ⟨ps, _, rfl⟩ := h4)) <;> simp [PyData.eqv, D.fz]
  | .bl _, _, _, _, h, _, _, _ => by simp [D.pl] at h
  | .str _, _, _, _, h, _, _, _ => by simp [D.pl] at h
  | .dic _ _, _, _, _, h, _, _, _ => by simp [D.pl] at h
  | .set _, _, _, _, h, _, _, _ => by simp [D.pl] at h
  | .scr _, _, _, _, h, _, _, _ => by simp [D.pl] at h
  | .pin _ _ _, _, _, _, h, _, _, _ => by simp [D.pl] at h
  | .err _ _, _, _, _, h, _, _, _ => by simp [D.pl] at h
theorem eqvs_pl : ∀ (xs ys : List D) (ps qs : List PyData), pls xs = true → pls ys = true → toPys xs = some ps → toPys ys = some qs → (PyData.eqvAll ps qs = true ↔ fzs xs = fzs ys)
  | [], ys, ps, qs, _, h2, h3, h4 => by
    simp only [toPys, Option.some.injEq] at h3; subst h3
    cases ys with
    | nil => simp only [toPys, Option.some.injEq] at h4; subst h4; simp [PyData.eqvAll, fzs]
    | cons y r =>
      simp only [toPys] at h4
      split at h4
      · simp only [Option.some.injEq] at h4; subst h4; simp [PyData.eqvAll, fzs]
      · cases h4
  | x :: xs, ys, ps, qs, h1, h2, h3, h4 => by
    simp only [pls, Bool.and_eq_true] at h1
    simp only [toPys] at h3
    split at h3
    · rename_i p ps' e1 e2
      simp only [Option.some.injEq] at h3; subst h3
      cases ys with
      | nil => simp only [toPys, Option.some.injEq] at h4; subst h4; simp [PyData.eqvAll, fzs]
      | cons y r =>
        simp only [pls, Bool.and_eq_true] at h2
        simp only [toPys] at h4
        split at h4
        · rename_i q qs' e3 e4
          simp only [Option.some.injEq] at h4; subst h4
          simp only [PyData.eqvAll, fzs, Bool.and_eq_true, List.cons.injEq]
          rw [eqv_pl x y p q h1.1 h2.1 e1 e3, eqvs_pl xs r ps' qs' h1.2 h2.2 e2 e4]
        · cases h4
    · cases h3
end
open Classical in
theorem gEq_pl {d e : D} (h1 : d.pl = true) (h2 : e.pl = true) (h3 : d.dp ≤ 64) (h4 : e.dp ≤ 64) : gEq [d, e] = .val (.bl (decide (d.fz = e.fz))) := by
  have a := okD_pl h1 h3
  have b := okD_pl h2 h4
  obtain ⟨p, e1, _⟩ := pl_py d h1
  obtain ⟨q, e2, _⟩ := pl_py e h2
  have c := eqv_pl d e p q h1 h2 e1 e2
  have hs : gEq [d, e] = if (okD d && okD e) = true then .val (.bl (dEq d e)) else .stuck := by
    unfold gEq
    split
    · rename_i z; simp only [List.cons.injEq, and_true] at z; rw [z.1] at h1; simp [D.pl] at h1
    · rename_i z; simp only [List.cons.injEq, and_true] at z; rw [z.1, z.2]
    · rename_i z; exact absurd rfl (z d e)
  rw [hs, a, b]
  simp only [Bool.and_self, if_true]
  unfold dEq
  rw [e1, e2]
  simp only
  congr 2
  by_cases hh : d.fz = e.fz
  · rw [decide_eq_true hh]; exact c.mpr hh
  · rw [decide_eq_false hh]
    cases hv : PyData.eqv p q with
    | false => rfl
    | true => exact absurd (c.mp hv) hh
open Classical in
theorem gNe_pl {d e : D} (h1 : d.pl = true) (h2 : e.pl = true) (h3 : d.dp ≤ 64) (h4 : e.dp ≤ 64) : gNe [d, e] = .val (.bl (!decide (d.fz = e.fz))) := by
  have g := gEq_pl h1 h2 h3 h4
  have hs : gNe [d, e] = if (okD d && okD e) = true then .val (.bl (!dEq d e)) else .stuck := by
    unfold gNe
    split
    · rename_i z; simp only [List.cons.injEq, and_true] at z; rw [z.1] at h1; simp [D.pl] at h1
    · rename_i z; simp only [List.cons.injEq, and_true] at z; rw [z.1, z.2]
    · rename_i z; exact absurd rfl (z d e)
  have hs' : gEq [d, e] = if (okD d && okD e) = true then .val (.bl (dEq d e)) else .stuck := by
    unfold gEq
    split
    · rename_i z; simp only [List.cons.injEq, and_true] at z; rw [z.1] at h1; simp [D.pl] at h1
    · rename_i z; simp only [List.cons.injEq, and_true] at z; rw [z.1, z.2]
    · rename_i z; exact absurd rfl (z d e)
  rw [hs'] at g
  rw [hs]
  split at g
  · rename_i t
    rw [if_pos t]
    simp only [ER.val.injEq, D.bl.injEq] at g
    rw [g]
  · cases g
theorem gEq_int {i j : Int} : gEq [.int i, .int j] = .val (.bl (decide (i = j))) := by
  rw [gEq_pl rfl rfl (by simp [D.dp]) (by simp [D.dp])]
  simp [D.fz]
theorem gNe_int {i j : Int} : gNe [.int i, .int j] = .val (.bl (!decide (i = j))) := by
  rw [gNe_pl rfl rfl (by simp [D.dp]) (by simp [D.dp])]
  simp [D.fz]
end DL

set_option Elab.async false
set_option linter.all false
set_option maxRecDepth 100000
set_option maxHeartbeats 2000000
namespace DL
open PySem PySem.Spec L2
open PyProof.Rows hiding St
mutual
def D.short : D → Prop
  | .int i => i.natAbs < 10 ^ 12 | .non => True | .tup xs => shorts xs | .lst _ xs => shorts xs | _ => False
def shorts : List D → Prop
  | [] => True
  | d :: r => d.short ∧ shorts r
end
mutual
def D.blk : D → Nat
  | .tup xs => blks xs | .lst _ xs => blks xs | _ => 1
def blks : List D → Nat
  | [] => 1
  | d :: r => d.blk + 1 + blks r
end
theorem log2_1920 {i : Int} (h : i.natAbs < 10 ^ 12) : i.natAbs.log2 < 1920 :=
  log2_lt (Nat.lt_of_lt_of_le h (by decide +kernel)) (by decide)
mutual
theorem sh_py : ∀ d : D, d.short → ∃ p, toPy d = some p ∧ p.showable = true ∧ p.leavesShort 13 = true ∧ p.depth = d.dp ∧ p.bulk ≤ d.blk
  | .int i, h => ⟨.int i, by simp [toPy], by simp only [PyData.showable, decide_eq_true_eq]; exact log2_1920 h, by simp only [PyData.leavesShort, decide_eq_true_eq]; exact PyData.shown_int_le h, by simp [PyData.depth, D.dp], by simp [PyData.bulk, D.blk]⟩
  | .non, _ => ⟨.none, by simp [toPy], by simp [PyData.showable], by simp [PyData.leavesShort], by simp [PyData.depth, D.dp], by simp [PyData.bulk, D.blk]⟩
  | .tup xs, h => by
    obtain ⟨ps, e, a, b, c, d⟩ := shs_py xs (by simpa [D.short] using h)
    exact ⟨.tuple ps, by simp [toPy, e], by simpa [PyData.showable] using a, by simpa [PyData.leavesShort] using b, by simp [PyData.depth, D.dp, c], by simpa [PyData.bulk, D.blk] using d⟩
  | .lst _ xs, h => by
    obtain ⟨ps, e, a, b, c, d⟩ := shs_py xs (by simpa [D.short] using h)
    exact ⟨.list ps, by simp [toPy, e], by simpa [PyData.showable] using a, by simpa [PyData.leavesShort] using b, by simp [PyData.depth, D.dp, c], by simpa [PyData.bulk, D.blk] using d⟩
  | .bl _, h => by simp [D.short] at h
  | .str _, h => by simp [D.short] at h
  | .dic _ _, h => by simp [D.short] at h
  | .set _, h => by simp [D.short] at h
  | .scr _, h => by simp [D.short] at h
  | .pin _ _ _, h => by simp [D.short] at h
  | .err _ _, h => by simp [D.short] at h
theorem shs_py : ∀ xs : List D, shorts xs → ∃ ps, toPys xs = some ps ∧ PyData.showableAll ps = true ∧ PyData.leavesShortAll 13 ps = true ∧ PyData.depthAll ps = dps xs ∧ PyData.bulkAll ps ≤ blks xs
  | [], _ => ⟨[], by simp [toPys], by simp [PyData.showableAll], by simp [PyData.leavesShortAll], by simp [PyData.depthAll, dps], by simp [PyData.bulkAll, blks]⟩
  | d :: r, h => by
    simp only [shorts] at h
    obtain ⟨p, e, a, b, c, f⟩ := sh_py d h.1
    obtain ⟨ps, e', a', b', c', f'⟩ := shs_py r h.2
    exact ⟨p :: ps, by simp [toPys, e, e'], by simp [PyData.showableAll, a, a'], by simp [PyData.leavesShortAll, b, b'], by simp [PyData.depthAll, dps, c, c'], by simp only [PyData.bulkAll, blks]; omega⟩
end
theorem okR_sh {d : D} (h : d.short) (h1 : d.dp ≤ 60) (h2 : d.blk ≤ 2 ^ 20) : okR d = true := by
  obtain ⟨p, e, a, b, c, f⟩ := sh_py d h
  unfold okR
  rw [e]
  simp only [Bool.and_eq_true, decide_eq_true_eq]
  exact ⟨⟨a, by omega⟩, PyData.shown_fits_bulk (by decide) (by decide) b (Nat.le_trans f h2)⟩
theorem gRepr_tup {xs : List D} (h : (D.tup xs).short) (h1 : (D.tup xs).dp ≤ 60) (h2 : (D.tup xs).blk ≤ 2 ^ 20) : gRepr [.tup xs] = .val (.str (dRepr (.tup xs))) := by
  show (if okR (.tup xs) = true then ER.val (.str (dRepr (.tup xs))) else .stuck) = _
  rw [if_pos (okR_sh h h1 h2)]
theorem gRepr_non : gRepr [.non] = .val (.str "None") := rfl
theorem gRepr_bl {b : Bool} : gRepr [.bl b] = .val (.str (if b then "True" else "False")) := rfl
theorem gNe_str {x y : Str} : gNe [.str x, .str y] = .val (.bl (!decide (x = y))) := rfl
theorem gEq_str {x y : Str} : gEq [.str x, .str y] = .val (.bl (decide (x = y))) := rfl
theorem sm_short {N M : Nat} {r : Rat} (h : Sm N M r) (hN : N ≠ 0) (h1 : M * N < 10 ^ 12) (h2 : N < 10 ^ 12) : (qd r).short := by
  have a := h.num hN
  have b := h.den hN
  simp only [qd, D.short, shorts, and_true]
  exact ⟨Nat.lt_of_le_of_lt a h1, Nat.lt_of_le_of_lt (by simpa using b) h2⟩
theorem qd_pl (r : Rat) : (qd r).pl = true := rfl
theorem qd_dp (r : Rat) : (qd r).dp = 1 := by simp [qd, D.dp, dps]
theorem gEq_qd {a b : Rat} : gEq [qd a, qd b] = .val (.bl (decide (a = b))) := by
  rw [gEq_pl (qd_pl a) (qd_pl b) (by rw [qd_dp]; decide) (by rw [qd_dp]; decide)]
  simp only [fz_qd, qd_inj]
  first | done | rfl | (congr 2)
theorem gNe_qd {a b : Rat} : gNe [qd a, qd b] = .val (.bl (!decide (a = b))) := by
  rw [gNe_pl (qd_pl a) (qd_pl b) (by rw [qd_dp]; decide) (by rw [qd_dp]; decide)]
  simp only [fz_qd, qd_inj]
  first | done | rfl | (congr 3)
end DL
namespace DL
open PySem PySem.Spec L2
theorem le_size {n : Nat} (h : n ≤ 1000) : n ≤ sizeLine := Nat.le_trans h (by decide +kernel)
end DL
namespace DL
open PySem PySem.Spec L2
theorem gIx_tup {xs : List D} {i : Int} : gIx [.tup xs, .int i] = match atI xs i with | some d => .val d | none => .stuck := rfl
theorem gIx_lst {o : Bool} {xs : List D} {i : Int} : gIx [.lst o xs, .int i] = match atI xs i with | some d => .val d | none => .stuck := rfl
theorem gIx_scr {xs : List Int} {i : Int} : gIx [.scr xs, .int i] = match atI xs i with | some d => .val (.int d) | none => .stuck := rfl
theorem gIx_q0 {r : Rat} : gIx [qd r, .int 0] = .val (.int r.num) := rfl
theorem gIx_q1 {r : Rat} : gIx [qd r, .int 1] = .val (.int (r.den : Int)) := rfl
theorem num_neg {r : Rat} : r.num < 0 ↔ r < 0 := by
  have := Rat.num_nonneg (q := r)
  constructor
  · intro h; apply Rat.not_le.mp; intro z; have := this.mpr z; omega
  · intro h; apply Int.not_le.mp; intro z; exact absurd (this.mp z) (Rat.not_le.mpr h)
theorem num_zero {r : Rat} : r.num = 0 ↔ r = 0 := Rat.num_eq_zero
theorem gNe_bl {a b : Bool} : gNe [.bl a, .bl b] = .val (.bl (!(a == b))) := by cases a <;> cases b <;> simp [gNe, okD, toPy, SeqAt.shaped, PyData.canLay0, PyData.depth, dEq, PyData.eqv]
theorem gEq_bl {a b : Bool} : gEq [.bl a, .bl b] = .val (.bl (a == b)) := by cases a <;> cases b <;> simp [gEq, okD, toPy, SeqAt.shaped, PyData.canLay0, PyData.depth, dEq, PyData.eqv]
theorem gIsN_qd {r : Rat} : gIsN [qd r, .non] = .val (.bl false) := rfl
theorem gNotN_qd {r : Rat} : gNotN [qd r, .non] = .val (.bl true) := rfl
end DL
namespace DL
open PySem PySem.Spec L2
theorem gIsN_non : gIsN [.non, .non] = .val (.bl true) := rfl
theorem gIsN_tup {xs : List D} : gIsN [.tup xs, .non] = .val (.bl false) := rfl
theorem gIsN_lst {o : Bool} {xs : List D} : gIsN [.lst o xs, .non] = .val (.bl false) := rfl
theorem gNotN_non : gNotN [.non, .non] = .val (.bl false) := rfl
theorem gNotN_tup {xs : List D} : gNotN [.tup xs, .non] = .val (.bl true) := rfl
theorem gNotN_lst {o : Bool} {xs : List D} : gNotN [.lst o xs, .non] = .val (.bl true) := rfl
end DL
namespace DL
open PySem PySem.Spec L2
theorem lt_size {n : Nat} (h : n < 1000) : n < sizeLine := Nat.lt_of_lt_of_le h (by decide +kernel)
end DL

set_option Elab.async false
set_option linter.all false
set_option maxRecDepth 100000
set_option maxHeartbeats 2000000
namespace L2
open PySem PySem.Spec PyProof.Rows
section
variable {X : Cx} {pins : List (Addr × Obj)} {σ : St} {H : Hp} {s : Shared}
/-- X(e), an own error, as a value -/
def tWayV (C : Addr) (ta : TA) : TE := fun σ H Q => ta σ H fun vs H1 => ∃ v, vs = [v] ∧ ∀ e d, H1 e = none → H1 d = none → d ≠ e → Q (.ref e) (upd (upd H1 d (.xd [(("at" : Str), v)])) e (.ext (DL.ephi e C d)))
theorem ephi_ok {P : Program} {w : World} {H : Hp} {h : Heap} {e C d : Addr} {oe : Obj} {vs : Array Value} (g : h.get? e = some oe) (hc : oe.cls = .ref C) (hd : oe.dict = some d) (hf : oe.data = .fields vs) : ObjOk P w H h e (.ext (DL.ephi e C d)) :=
  ⟨⟨oe, vs, g, hc, hd, hf⟩, ⟨oe, g⟩, fun _ _ ⟨o, v, q, r⟩ k => ⟨o, v, k o q, r⟩⟩
theorem pe_wayV {C fI D cc : Addr} {nC : Str} {a : Expr} {ta : TA} {p pos : Pos} {k : Nat} (T : PySem.WayX.WayTxt X.prog X.K X.mg nC C fI D cc) (hr : Room (k + 1) X.A) (ha : PA X [a] ta) (hg : Gl X nC) (hd : (nC == ("__debug__" : Str)) = false := by decide)
    (he : starEach (a :: []) X.env = (false, eval a X.env) :: starEach [] X.env := by rfl) (hpl : (backTo pos (starEach [] X.env)).any (·.1) = false := by rfl) :
    PE X (.Call (.Name nC p) [a] [] pos) (tWayV C ta) := by
  refine ⟨fun pins s σ H Q I h => ?_⟩
  refine wpAny_Call_Name_kw (ld_glob I hg T.gC ?_ hd)
  refine PySem.W.callWith_K (h₀ := X.base) I.ok.mod.kin T.kC (thn (ha.run pos pins s σ H _ I h) fun us s1 hh => ?_) he hpl
  obtain ⟨vs, H1, I1, r1, v, ev, q1⟩ := hh
  subst ev
  refine ⟨I1.kIn, ?_⟩
  cases r1 with
  | cons rv rn =>
    rename_i v' us'
    cases rn
    show wpAny _ _ (call (.ref C) [v']) _ _ _
    have hlim := I1.nolimit
    obtain ⟨mb, hb1, hb2⟩ := I1.ok.mod.blt
    have G := I1.ok.mod.glob.keeps I1.bk
    have Bt := hb1.keeps I1.bk
    obtain ⟨hp, g, dr, tk, os⟩ := s1
    refine wpAny_call (PySem.WayX.way_made T I1.kIn hlim G Bt (hb2 _ (by decide)) (by have := hr.dp; omega) fun h' tk' e d M => ?_)
    obtain ⟨oe, fv, hoe, hc, hd, hdat, h1⟩ := M.obj
    have hns := M.ns
    obtain ⟨G', g1, g2⟩ := restrict h' fun b => decide (b ≠ e)
    have gk : ∀ b, b ≠ e → G'.get? b = h'.get? b := fun b hb => g1 b (decide_eq_true hb)
    have ge : G'.get? e = none := g2 e (by simp)
    have old : ∀ b o, hp.get? b = some o → G'.get? b = some o := fun b o q => (gk b (Nat.ne_of_lt (Nat.lt_of_lt_of_le (Heap.lt_size q) M.new))).trans (M.keep b o q)
    have ob : ObjOk X.prog X.w (upd H1 d (.xd [(("at" : Str), v)])) G' d (.xd [(("at" : Str), v)]) :=
      ⟨_, hns.at (fun o q => (gk d M.dne).trans q), fun f => relO_way rv f⟩
    have J : Inv X pins σ (upd H1 d (.xd [(("at" : Str), v)])) ⟨G', g, dr, tk', os⟩ := I1.laid (t' := tk') old M.dbig ob
    have n1 : H1 e = none := I1.hok.fresh M.new
    have n2 : H1 d = none := I1.hok.fresh M.dbig
    have gs : ∀ b o, G'.get? b = some o → h'.get? b = some o := fun b o q => by
      by_cases hb : b = e
      · rw [hb, ge] at q; cases q
      · exact (gk b hb).symm.trans q
    have J2 := J.laidN (h' := h') (a := e) (o := .ext (DL.ephi e C d)) (t' := tk') gs ge (by rw [upd_ne (Ne.symm M.dne)]; exact n1) (ephi_ok hoe hc hd hdat)
    exact ⟨.ref e, _, J2, rfl, q1 e d n1 n2 M.dne⟩
/-- an object that stands already is tracked from now on -/
theorem Inv.track {a : Addr} {o : HO} (I : Inv X pins σ H s) (h0 : X.s_0.heap.get? a = none) (na : H a = none) (nL : X.env.locals ≠ a) (nC : ∀ x c, X.env.cells.lookup x = some c → c ≠ a) (np : ∀ p ∈ X.pn ++ pins, p.1 ≠ a)
    (new : ObjOk X.prog X.w (upd H a o) s.heap a o) : Inv X pins σ (upd H a o) s := by
  have ne0 : ∀ b u, X.s_0.heap.get? b = some u → b ≠ a := fun b u e z => by rw [z, h0] at e; cases e
  have neS : ∀ b u, H b = some u → b ≠ a := fun b u e z => by rw [z, na] at e; cases e
  refine ⟨I.ok, I.os, I.bare, ⟨I.base.keep, I.base.slot, fun b u e n hx => ?_, I.base.there, fun b xs e => ?_, fun b u v e => ?_, fun b ps e => ?_⟩, I.loc, I.cell, ?_, fun x c e => ?_, fun p hp => ?_, fun b u e => ?_, I.len⟩
  · rw [upd_ne (ne0 b u e)]; exact I.base.free b u e n hx
  · have q := I.base.tups b xs e
    rw [upd_ne (neS b _ q)]; exact q
  · have q := I.base.frzs b u v e
    rw [upd_ne (neS b _ q)]; exact q
  · obtain ⟨m, q⟩ := I.base.tbls b ps e
    exact ⟨m, by rw [upd_ne (neS b _ q)]; exact q⟩
  · rw [upd_ne nL]; exact I.free
  · rw [upd_ne (nC x c e)]; exact I.freeC x c e
  · obtain ⟨e, n, ne, nf, d⟩ := I.pin p hp
    exact ⟨e, by rw [upd_ne (np p hp)]; exact n, ne, nf, d⟩
  · by_cases hb : b = a
    · subst hb
      rw [upd_same] at e
      cases e
      exact new
    · rw [upd_ne hb] at e
      exact (I.hok b u e).stay (fun c v _ q => q) (fun c q => by rw [upd_ne (neS c _ q)]; exact q) fun c xs q => by rw [upd_ne (neS c _ q)]; exact q
/-- isinstance(e, c) of an own error -/
def rIsX (K : PySem.W.Frag) : List V → Hp → VK → Prop := fun xs H Q => ∃ (e C d : Addr) (c : V) (cv : Value) (b : Bool), xs = [.ref e, c] ∧ H e = some (.ext (DL.ephi e C d)) ∧ (∃ ds fs, H d = some (.xd fs) ∧ ds = d) ∧ ExcC K C ∧ (∀ u, RelV c u → u = cv) ∧ PySem.W.kitOne K (.ref C) cv = some b ∧ Q (.bl b) H
theorem inst_of {e C d : Addr} {fs : List (Str × V)} (I : Inv X pins σ H s) (he : H e = some (.ext (DL.ephi e C d))) (hd : H d = some (.xd fs)) : ∃ oe od, PySem.W.InstAt s.heap e oe C (some od) ∧ ∃ mA, s.heap.Ns1 d mA ∧ (∀ f, RelO (fs.lookup f) (mA f)) ∧ s.heap.get? d = some od := by
  obtain ⟨⟨oe, vs, g, hc, hdd, hf⟩, _, _⟩ := (show ObjOk X.prog X.w H s.heap e (.ext (DL.ephi e C d)) from I.hok e _ he)
  obtain ⟨mA, hns, hr⟩ := (show ObjOk X.prog X.w H s.heap d (.xd fs) from I.hok d _ hd)
  obtain ⟨od, ho, hl⟩ := lookIn_ns hns
  exact ⟨oe, od, ⟨g, hc, by unfold PySem.W.notCls; rw [hf] <;> rfl, by rw [hdd]; exact ho⟩, mA, hns, hr, ho⟩
theorem call_isX : CallR X (.builtin "isinstance") (rIsX X.K) := by
  intro pins s σ H xs us Q I r h
  obtain ⟨e, C, d, c, cv, b, rfl, he, ⟨_, fs, hd, _⟩, E, hcv, k, q⟩ := h
  obtain ⟨u1, u2, rfl, r1, r2⟩ := vals2 r
  obtain rfl : u1 = Value.ref e := r1
  have ec := hcv _ r2
  subst ec
  obtain ⟨oe, od, J, _⟩ := inst_of I he hd
  refine PySem.W.kia_one (PySem.W.kitx_exc (ox := oe) (od := some od) (x := e) (C := C) ?_ E.hg E.hk E.hs E.ha E.hn E.ht E.hm) I.kIn J k (fun z => nomatch z) fun tk => ⟨.bl b, H, I.tok tk, rfl, q⟩
  obtain ⟨cd, hc, _⟩ := PySem.W.any_some E.hd
  rw [hc]; rfl
/-- e.at of an own error -/
def tXat (K : PySem.W.Frag) (f : Str) (te : TE) : TE := fun σ H Q => te σ H fun x H1 => ∃ (e C d : Addr) (fs : List (Str × V)) (v : V), x = .ref e ∧ H1 e = some (.ext (DL.ephi e C d)) ∧ H1 d = some (.xd fs) ∧ XfC K C ∧ PySem.W.findIn K (.ref C) f = some none ∧ fs.lookup f = some v ∧ Q v H1
theorem pe_xat {e : Expr} {te : TE} {pos : Pos} {n : Str} (he : PE X e te) (hb : attributeBase e n X.env (eval e X.env) = eval e X.env := by rfl) : PE X (.Attribute e n pos) (tXat X.K n te) := by
  refine ⟨fun pins s σ H Q I h => ?_⟩
  refine attr_of hb (thn (he.run pins s σ H _ I h) fun u s1 hh => ?_)
  obtain ⟨x, H1, I1, rx, a, C, d, fs, v, ex, ha, hd, T, hno, l, q⟩ := hh
  subst ex
  obtain rfl : u = Value.ref a := rx
  obtain ⟨⟨oe, vs, g, hc, hdd, hf⟩, _, _⟩ := (show ObjOk X.prog X.w H1 s1.heap a (.ext (DL.ephi a C d)) from I1.hok a _ ha)
  obtain ⟨mA, hns, hr⟩ := (show ObjOk X.prog X.w H1 s1.heap d (.xd fs) from I1.hok d _ hd)
  obtain ⟨od, ho, hl⟩ := lookIn_ns hns
  obtain ⟨u, hu, ru⟩ := RelO.some_of (v := v) (o := mA n) (by rw [← l]; exact hr n)
  have J : PySem.W.InstAt s1.heap a oe C (some od) := ⟨g, hc, by unfold PySem.W.notCls; rw [hf] <;> rfl, by rw [hdd]; exact ho⟩
  exact HandSPX.exc_get I1.kIn J T.ga T.gg T.exC (PySem.W.findObj_own T.hdC hno rfl (by rw [hl, hu])) (handed_of ru) ⟨v, H1, I1.tok _, ru, q⟩
end
end L2

set_option Elab.async false
set_option linter.all false
set_option maxRecDepth 100000
set_option maxHeartbeats 2000000
namespace L2
open PySem PySem.Spec PyProof.Rows
section
variable {X : Cx} {pins : List (Addr × Obj)} {σ : St} {H : Hp} {s : Shared}
/-- the suite's error is held on to -/
theorem Inv.unsuiteP {a : Addr} {q : Addr × Obj} (I : Inv (X.suite a (q :: (X.pn ++ pins))) [] σ H s) (ok : X.Ok) : Inv X (q :: pins) σ H s :=
  ⟨ok, I.os, I.bare, I.base, I.loc, I.cell, I.free, I.freeC, fun p hp => I.pin p (List.mem_append_left _ (by
    rcases List.mem_append.mp hp with h | h
    · exact List.mem_cons_of_mem _ (List.mem_append_left _ h)
    · rcases List.mem_cons.mp h with h | h
      · rw [h]; exact List.mem_cons_self
      · exact List.mem_cons_of_mem _ (List.mem_append_right _ h))), I.hok, I.len⟩
theorem Inv.unpin {q : Addr × Obj} (I : Inv X (q :: pins) σ H s) : Inv X pins σ H s :=
  ⟨I.ok, I.os, I.bare, I.base, I.loc, I.cell, I.free, I.freeC, fun p hp => I.pin p (by
    rcases List.mem_append.mp hp with h | h
    · exact List.mem_append_left _ h
    · exact List.mem_append_right _ (List.mem_cons_of_mem _ h)), I.hok, I.len⟩
/-- what the clause 'except x as n: return n' wishes -/
def wAsE (K : PySem.W.Frag) (c : Value) (D : Ends) (Wout : WX) : WX := fun cls d σ H =>
  ∃ b, PySem.W.exmOne K cls c = some b ∧ (b = true → ∃ C dd, cls = .ref C ∧ d = some dd ∧ ∀ a, H a = none → D.rt (.ref a) (upd H a (.ext (DL.ephi a C dd)))) ∧ (b = false → Wout cls d σ H)
def tRetA (i : Nat) (a : Addr) : TS := fun D σ H => σ[i]? = some (some (.ref a)) ∧ D.rt (.ref a) H
theorem ps_try_ret {x n : Str} {c : Value} {i : Nat} {body : List Stmt} {b₀ : Stmt} {suite : List Stmt} {np pos' pos : Pos} {tb : WX → TS} {Wout : WX} (hs : X.stack = X.env :: X.outer) (hf : X.env.frame = some X.env.locals) (hN : X.N.Nodup) (hex : X.ex = []) (tk : Takes X Wout)
    (hb : ∀ (W : WX) (pn : List (Addr × Obj)) (xe : Value → Shared → Prop), Takes (X.tr pn xe) W → PassesOwn (model X.prog X.w) X.A X.env xe → PSs (X.tr pn xe) body (tb W))
    (hi : X.N[i]? = some n) (hln : X.env.kindOf n = some .local) (hc : Names X x c)
    (hsu : ∀ (a : Addr) (pn : List (Addr × Obj)), PSs (X.suite a pn) (b₀ :: suite) (tRetA i a)) :
    PS X (.Try body [.ExceptHandler (some (.Name x np)) (some n) (b₀ :: suite) pos'] [] [] pos) (fun D σ H => σ.length = X.N.length → tb (wAsE X.K c D Wout) D σ H) := by
  refine ⟨fun pins s σ H D I h => ?_⟩
  have h := h I.len
  have ok := I.ok
  have hfr : X.A.frames = some (X.env :: X.outer) := by rw [ok.frames, hs]
  refine wpAny_Try_except ?_
  refine wpAny_mono ((hb (wAsE X.K c D Wout) (X.pn ++ pins) (fun e s₁ => wpAny (model X.prog X.w) X.A (noteFrame e X.env) (fun _ s₂ => wpAny (model X.prog X.w) X.A (setFlight e none) (fun _ s₃ =>
    wpAny (model X.prog X.w) X.A (handleBy e X.env [.ExceptHandler (some (.Name x np)) (some n) (b₀ :: suite) pos']) (SP X pins D) X.xe s₃) X.xe s₂) X.xe s₁) (fun u s' xx => ?_) PassesOwn.looking).run [] s σ H D (I.toTry _) h) (fun f s1 hsp => ?_) (fun e s1 he => he)
  · -- the catch
    obtain ⟨a, B, sI, pins', σ', H', cls, d, rfl, J', nb, up, sky, na, os, ag, w⟩ := xx
    have J : Inv X pins σ' H' sI := J'.ofTry ok
    have sky' : Sky B (X.env :: X.outer) a (Zc cls d) X.env.locals s'.heap := by rw [← hs]; exact sky
    show wpAny (model X.prog X.w) X.A (noteFrame (.ref a) X.env) _ _ _
    refine Sky.land Zc.steady hfr hf sky' fun h3 fl3 up3 => ?_
    have J3 : Inv X pins σ' H' { s' with heap := h3 } := J.landed nb fl3.1 (up.trans up3) os ag
    obtain ⟨oe3, vs3, he3, hz3, hd3⟩ := fl3.there
    have notFr : ∀ {h : Heap} {o : Obj} {vs : Array Value}, h.FunFrames B (X.env :: X.outer) → h.get? a = some o → o.data = .fields vs → a ∉ frs (X.env :: X.outer) := fun {h o vs} ff e dd hm => by
      obtain ⟨_, o', e', hnf⟩ := ff.mem hm
      rw [e] at e'; cases e'
      exact hnf _ dd
    have nfr := notFr fl3.2.2.1 he3 hd3
    have nL : a ≠ X.env.locals := fun z => nfr (List.mem_filterMap.mpr ⟨X.env, List.mem_cons_self, by rw [hf, z]⟩)
    have nF : a ∉ X.fs := fun hm => by
      obtain ⟨e, he, q⟩ := List.mem_filterMap.mp hm
      exact nfr (List.mem_filterMap.mpr ⟨e, List.mem_cons_of_mem _ he, q⟩)
    -- it is new
    have nI : sI.heap.get? a = none := by
      cases q : sI.heap.get? a with
      | none => rfl
      | some o =>
        have z := nb a o q (by rw [hs]; exact nfr)
        rw [fl3.2.1] at z; cases z
    have n0 : X.s_0.heap.get? a = none := by
      cases q : X.s_0.heap.get? a with
      | none => rfl
      | some o =>
        obtain ⟨o', z⟩ := J.base.there a o q (by rw [hex]; exact fun z => nomatch z)
        rw [nI] at z; cases z
    have nC : ∀ x c, X.env.cells.lookup x = some c → c ≠ a := fun x c e z => by
      obtain ⟨v, o, q, _⟩ := J.cell x c e
      rw [z, nI] at q; cases q
    have nP : ∀ p ∈ X.pn ++ pins, p.1 ≠ a := fun p hp z => by
      have q := (J.pin p hp).1
      rw [z, nI] at q; cases q
    have S3 := J3.suite he3 hd3 na nL nF
    obtain ⟨b, hb1, hyes, hno⟩ := w
    have hloc : Loc X.env.scope n := .inl hln
    refine wpAny_handleBy_cons (codeAny_handlers_test ?_) (by intro q; cases q)
    have LT : PySem.W.Looks (model X.prog X.w) h3 (typeOf (.ref a)) cls := fun A Q E s k q => wpAny_typeOf_ref (k _ _ he3) (by rw [hz3.1]; exact q)
    have LM := PySem.W.exm_one (M := model X.prog X.w) (J3.kIn) LT hb1
    have test : ∀ {Q : Value → Shared → Prop} {E : Value → Shared → Prop}, Q c { s' with heap := h3 } → wpAny (model X.prog X.w) (X.A.mark (some (.ref a))) (eval (.Name x np) X.env) Q E { s' with heap := h3 } := fun {Q E} q => by
      obtain ⟨hg, hdbg, hm | ⟨hm, hv, hnn⟩⟩ := hc
      · exact ld_glob (X := X.suite a ((a, oe3) :: (X.pn ++ pins))) S3 hg hm q hdbg
      · exact ld_blt (X := X.suite a ((a, oe3) :: (X.pn ++ pins))) S3 hg hm hv q hnn hdbg
    refine test (LM.here ?_)
    cases b with
    | true =>
      obtain ⟨C, dd, rfl, rfl, hq⟩ := hyes rfl
      refine codeAny_handlers_suite_as ?_
      refine HandSPX.lands_againZ fl3 fun h4 fl4 up4 => ?_
      have J4 : Inv X pins σ' H' { s' with heap := h4 } := J.landed nb fl4.1 ((up.trans up3).trans up4) os ag
      obtain ⟨oe4, vs4, he4, hz4, hd4⟩ := fl4.there
      have S4 := J4.suite he4 hd4 na nL nF
      refine store_ok (X := X.suite a ((a, oe4) :: (X.pn ++ pins))) (v := .ref a) S4 hN hi hloc rfl (fun s5 S5 => ?_) (.inr hln)
      have hlt : i < σ'.length := by
        rw [J.len]
        exact (List.getElem?_eq_some_iff.mp hi).1
      refine wpAny_mono ((hsu a ((a, oe4) :: (X.pn ++ pins))).run [] s5 _ H' ⟨fun _ _ => False, fun v H6 => v = .ref a ∧ H6 = H', fun _ _ => False, fun _ _ => False⟩ S5 ⟨List.getElem?_set_self hlt, rfl, rfl⟩) (fun f s6 hsp => ?_) (fun _ _ z => False.elim z)
      cases f with
      | next => obtain ⟨_, _, _, z⟩ := hsp; exact z.elim
      | brk => obtain ⟨_, _, _, z⟩ := hsp; exact z.elim
      | cont => obtain ⟨_, _, _, z⟩ := hsp; exact z.elim
      | ret u =>
        obtain ⟨v6, σ6, H6, S6, r6, rfl, rfl⟩ := hsp
        show wpAny (model X.prog X.w) X.A (do bindName X.env n .none; unbindBehindTheSuite X.env n pos') (fun _ s7 => SP X pins D (.ret u) s7) X.xe s6
        refine gone_ok (S6.unsuiteP ok) hN hi hln fun s7 J7 => ?_
        have g7 : s7.heap.get? a = some oe4 := (J7.pin (a, oe4) (List.mem_append_right _ List.mem_cons_self)).1
        have J8 := J7.unpin.track (o := .ext (DL.ephi a C dd)) n0 na (Ne.symm nL) nC nP (ephi_ok g7 hz4.1 hz4.2 hd4)
        exact ⟨_, _, _, J8, r6, hq a na⟩
    | false =>
      show wpAny _ X.A (handleBy (.ref a) X.env []) _ _ _
      have w := hno rfl
      refine wpAny_handleBy_nil ?_
      obtain ⟨k1, k2, k3, oe, vs, T, oT, ts', he, hz, hd, h1, hr⟩ := id fl3
      unfold PySem.passOn
      refine wpAny_bind (wpAny_field he hd h1 ?_)
      rw [if_neg (show ¬ ((Value.ref T == Value.none) = true) from by simp)]
      have fin : wpAny (model X.prog X.w) X.A (setFlight (.ref a) X.env.frame) (fun _ s4 => wpAny (model X.prog X.w) X.A (throw (.ref a) : Sem Flow) (SP X pins D) X.xe s4) X.xe { s' with heap := h3 } := by
        rw [hf]
        refine HandSPX.setFlight_upZ fl3 fun h4 hh4 up4 => wpAny_throw (tk _ _ ?_)
        exact ⟨a, B, sI, pins, σ', H', cls, d, rfl, J, nb, (up.trans up3).trans up4, .inr (.inr (by rw [hs]; exact hh4)), na, os, ag, w⟩
      first
        | exact wpAny_bind (wpAny_pure (wpAny_bind fin))
        | exact wpAny_bind fin
  · cases f with
    | next =>
      obtain ⟨σ', H', J', q⟩ := hsp
      exact wpAny_execs_nil ⟨σ', H', J'.ofTry ok, q⟩
    | brk =>
      obtain ⟨σ', H', J', q⟩ := hsp
      exact ⟨σ', H', J'.ofTry ok, q⟩
    | cont =>
      obtain ⟨σ', H', J', q⟩ := hsp
      exact ⟨σ', H', J'.ofTry ok, q⟩
    | ret u =>
      obtain ⟨v, σ', H', J', r, q⟩ := hsp
      exact ⟨v, σ', H', J'.ofTry ok, r, q⟩
end
end L2

set_option Elab.async false
set_option linter.all false
set_option maxRecDepth 100000
set_option maxHeartbeats 2000000
namespace DL
open PySem PySem.Spec L2
open PyProof.Rows hiding St
/-- what is known of the error class named c -/
structure ErrK (K : PySem.W.Frag) (mg : Str → Option Value) (c : Str) (C : Addr) : Prop where
  ns : PySem.W.nsIn K mainGlobals c = some (some (.ref C))
  gC : mg c = some (.ref C)
  xf : XfC K C
  noN : PySem.W.findIn K (.ref C) "at" = some none
  ex : ExcC K C
def ErrAll (K : PySem.W.Frag) (mg : Str → Option Value) (ns : List Str) : Prop := ∀ c ∈ ns, ∃ C, ErrK K mg c C
def ErrAt (P : Program) (K : PySem.W.Frag) (mg : Str → Option Value) (c : Str) : Prop := ∃ C fI D cc, PySem.WayX.WayTxt P K mg c C fI D cc ∧ PySem.W.nsIn K mainGlobals c = some (some (.ref C))
/-- isinstance(e, T) of the classes ns, T being cv -/
def IsF (K : PySem.W.Frag) (ns : List Str) (cv : Value) (r : Str → Bool) : Prop := ∀ c ∈ ns, ∀ C, PySem.W.nsIn K mainGlobals c = some (some (.ref C)) → PySem.W.kitOne K (.ref C) cv = some (r c)
def ExmF (K : PySem.W.Frag) (ns : List Str) (cv : Value) : Prop := ∀ c ∈ ns, ∀ C, PySem.W.nsIn K mainGlobals c = some (some (.ref C)) → PySem.W.exmOne K (.ref C) cv = some true
def gMk (c : Str) : List D → ER
  | [.int n] => .val (.err c n)
  | _ => .stuck
def gAt (ns : List Str) : List D → ER
  | [.err c n] => if c ∈ ns then .val (.int n) else .stuck
  | _ => .stuck
def gIs (ns : List Str) (r : Str → Bool) : List D → ER
  | [.err c _] => if c ∈ ns then .val (.bl (r c)) else .stuck
  | _ => .stuck
def gIsI (b : Bool) : List D → ER
  | [.int _] => .val (.bl b)
  | _ => .stuck
def sTryE (F : Sv) (ns : List Str) : Sv := fun ρ => match F ρ with
  | .exc c n _ => if c ∈ ns then .ret (.err c n) else .stuck
  | r => r
theorem NoX.mk {c : Str} : NoX (gMk c) := fun ds c n h => by unfold gMk at h; split at h <;> cases h
section
variable {X : Cx} {W : WX} {B : Fx} {a e te : Expr} {p p2 pos : Pos} {rd : List Nat} {l : Lv} {f : Ev} {k : Nat}
theorem de_mk {nC : Str} (dx : Dx X W (k + 1)) (T : ErrAt X.prog X.K X.mg nC) (ha : DA X W [a] rd l) (hg : Gl X nC) (hd : (nC == ("__debug__" : Str)) = false := by decide)
    (he : starEach (a :: []) X.env = (false, eval a X.env) :: starEach [] X.env := by rfl) (hpl : (backTo pos (starEach [] X.env)).any (·.1) = false := by rfl) : DE X W (.Call (.Name nC p) [a] [] pos) rd (eA (gMk nC) l) := by
  obtain ⟨C, fI, Dw, cc, T, tn⟩ := T
  refine PEi (pe_wayV T dx.rm ha hg hd he hpl) fun σ H Q q => ?_
  obtain ⟨ρ, P, vw, kk⟩ := tA_of .mk q
  refine ⟨ρ, P, vw, ?_⟩
  split at kk
  · intro vs H1 o
    obtain ⟨P1, as, ds, r, fz, rr, ow, hg, z⟩ := kk vs H1 o
    unfold gMk at hg
    split at hg
    · rename_i n
      cases hg
      cases rr with
      | cons x y =>
        cases x
        cases y
        refine ⟨.int n, rfl, fun e d he hd hne => z _ _ ⟨fun x => P1 x ∨ x = e, [], ⟨(same_new hd).trans (same_new (by rw [upd_ne (Ne.symm hne)]; exact he)), fun _ h => .inl h, fun x h => ?_⟩, .err tn upd_same (.inr rfl) (by rw [upd_ne hne]; exact upd_same), .nil, fun _ z => nomatch z⟩⟩
        rcases h with h | rfl
        · exact .inl h
        · exact .inr (.inr ⟨he, _, upd_same⟩)
    · cases hg
  · exact kk
  · exact kk
theorem de_at {ns : List Str} (A : ErrAll X.K X.mg ns) (he : DE X W e rd f) (hb : attributeBase e "at" X.env (eval e X.env) = eval e X.env := by rfl) : DE X W (.Attribute e "at" pos) rd (eA (gAt ns) (lC f lN)) :=
  PEi (pe_xat he hb) fun σ H Q ⟨ρ, P, vw, q⟩ => by
    refine ⟨ρ, P, vw, ?_⟩
    unfold eA lC lN at q
    cases hf : f ρ with
    | val d =>
      simp only [hf] at q
      intro v H1 o
      obtain ⟨P', as', g, rr, ow, nw⟩ := o
      cases d with
      | err c n =>
        simp only [gAt] at q
        by_cases hc : c ∈ ns
        · simp only [hc, if_true] at q
          cases rr with
          | err g1 g2 g3 g4 =>
            obtain ⟨C', E⟩ := A c hc
            have := E.ns.symm.trans g1
            cases this
            exact ⟨_, _, _, _, .int n, rfl, g2, g4, E.xf, E.noN, rfl, q _ _ (.plain g.same (.int n))⟩
        · simp only [hc, if_false] at q
      | _ => simp only [gAt] at q
    | exc c n => simp only [hf] at q; exact q
    | stuck => simp only [hf] at q
theorem de_is {ns : List Str} {cv : Value} {r : Str → Bool} {v : V} (A : ErrAll X.K X.mg ns) (hF : IsF X.K ns cv r) (hT : PE X te (tC v)) (hv : ∀ u, RelV v u → u = cv) (hg : Gl X "isinstance") (hm : X.mg "isinstance" = none) (he : DE X W e rd f)
    (hs : starEach [e, te] X.env = (false, eval e X.env) :: starEach [te] X.env := by rfl) (hs2 : starEach [te] X.env = (false, eval te X.env) :: starEach [] X.env := by rfl) (hpl : (backTo pos (starEach [te] X.env)).any (·.1) = false := by rfl) :
    DE X W (.Call (.Name "isinstance" p) [e, te] [] pos) rd (eA (gIs ns r) (lC f lN)) :=
  PEi (pe_callB call_isX hg hm (by decide +kernel) (pa_cons he (pa_cons hT pa_nil hs2) hs) (by decide) (by decide) hs hpl) fun σ H Q ⟨ρ, P, vw, q⟩ => by
    refine ⟨ρ, P, vw, ?_⟩
    unfold eA lC lN at q
    cases hf : f ρ with
    | val d =>
      simp only [hf] at q
      intro v1 H1 o
      obtain ⟨P', as', g, rr, ow, nw⟩ := o
      cases d with
      | err c n =>
        simp only [gIs] at q
        by_cases hc : c ∈ ns
        · simp only [hc, if_true] at q
          cases rr with
          | err g1 g2 g3 g4 =>
            obtain ⟨C', E⟩ := A c hc
            have := E.ns.symm.trans g1
            cases this
            exact ⟨_, _, _, v, cv, r c, rfl, g2, ⟨_, _, g4, rfl⟩, E.ex, hv, hF c hc _ g1, q _ _ (.plain g.same (.bl _))⟩
        · simp only [hc, if_false] at q
      | _ => simp only [gIs] at q
    | exc c n => simp only [hf] at q; exact q
    | stuck => simp only [hf] at q
theorem de_isI {cv : Value} {b : Bool} {v : V} (hF : ∀ K, PySem.W.kitOne K (.type "int") cv = some b) (hT : PE X te (tC v)) (hv : ClsV v cv) (hg : Gl X "isinstance") (hm : X.mg "isinstance" = none) (he : DE X W e rd f)
    (hs : starEach [e, te] X.env = (false, eval e X.env) :: starEach [te] X.env := by rfl) (hs2 : starEach [te] X.env = (false, eval te X.env) :: starEach [] X.env := by rfl) (hpl : (backTo pos (starEach [te] X.env)).any (·.1) = false := by rfl) :
    DE X W (.Call (.Name "isinstance" p) [e, te] [] pos) rd (eA (gIsI b) (lC f lN)) :=
  PEi (pe_callB call_isi hg hm (by decide +kernel) (pa_cons he (pa_cons hT pa_nil hs2) hs) (by decide) (by decide) hs hpl) fun σ H Q ⟨ρ, P, vw, q⟩ => by
    refine ⟨ρ, P, vw, ?_⟩
    unfold eA lC lN at q
    cases hf : f ρ with
    | val d =>
      simp only [hf] at q
      intro v1 H1 o
      obtain ⟨P', as', g, rr, ow, nw⟩ := o
      cases d with
      | int i =>
        simp only [gIsI] at q
        cases rr
        exact ⟨_, v, .type "int", cv, b, rfl, hv, .base (.int i), hF _, q _ _ (.plain g.same (.bl _))⟩
      | _ => simp only [gIsI] at q
    | exc c n => simp only [hf] at q; exact q
    | stuck => simp only [hf] at q
theorem ds_tryE {ns : List Str} {x n : Str} {cv : Value} {i : Nat} {body : List Stmt} {np p3 pos' : Pos} {F : Sv} (dx : Dx X B.L.W k) (hL : B.L = lt X B.L.W) (A : ErrAll X.K X.mg ns) (hE : ExmF X.K ns cv) (hs : X.stack = X.env :: X.outer) (hf : X.env.frame = some X.env.locals) (hex : X.ex = [])
    (hb : ∀ (W : WX) (pn : List (Addr × Obj)) (xe : Value → Shared → Prop), Takes (X.tr pn xe) W → PassesOwn (model X.prog X.w) X.A X.env xe → DSs (X.tr pn xe) ⟨lt X W, B.H0, B.P0, B.fz0⟩ body F)
    (hi : X.N[i]? = some n) (hln : X.env.kindOf n = some .local) (hc : Names X x cv)
    (hv : ∀ (a : Addr) (pn : List (Addr × Obj)), PE (X.suite a pn) (.Name n p2) (tVar i)) :
    DS X B (.Try body [.ExceptHandler (some (.Name x np)) (some n) [.Return (some (.Name n p2)) p3] pos'] [] [] pos) (sTryE F ns) := by
  have ps := ps_try_ret (X := X) (tb := fun W => tS ⟨lt X W, B.H0, B.P0, B.fz0⟩ F) (pos := pos) (np := np) (pos' := pos') (b₀ := .Return (some (.Name n p2)) p3) (suite := []) (i := i) hs hf dx.nd hex dx.tk hb hi hln hc fun a pn => ⟨fun pins s σ H D I h => (pss_one (ps_ret (hv a pn))).run pins s σ H D I ⟨_, h.1, h.2⟩⟩
  refine ⟨fun pins s σ H D I h => ps.run pins s σ H D I fun hl => ?_⟩
  obtain ⟨ρ, fr, fvs, r, q⟩ := h
  have rk : ∀ {W : WX} {ρ : Env} {σ : St} {H : Hp} {fr : List DL.D} {fvs : List V}, RelVs B ρ σ H fr fvs → RelVs ⟨lt X W, B.H0, B.P0, B.fz0⟩ ρ σ H fr fvs := fun {W ρ σ H fr fvs} h => by
    obtain ⟨P, as, bs, g, er, rr, n, qq⟩ := h
    rw [hL] at er rr
    exact ⟨P, as, bs, g, er, rr, n, qq⟩
  have rk' : ∀ {W : WX} {ρ : Env} {σ : St} {H : Hp} {fr : List DL.D} {fvs : List V}, RelVs ⟨lt X W, B.H0, B.P0, B.fz0⟩ ρ σ H fr fvs → RelVs B ρ σ H fr fvs := fun {W ρ σ H fr fvs} h => by
    obtain ⟨P, as, bs, g, er, rr, n, qq⟩ := h
    refine ⟨P, as, bs, g, ?_, ?_, n, qq⟩
    · rw [hL]; exact er
    · rw [hL]; exact rr
  refine ⟨ρ, fr, fvs, rk r, ?_⟩
  unfold sTryE at q
  cases hF : F ρ with
  | nx ρ' => rw [hF] at q; exact fun σ' H' r' => q σ' H' (rk' r')
  | brk ρ' => rw [hF] at q; exact fun σ' H' r' => q σ' H' (rk' r')
  | ct ρ' => rw [hF] at q; exact fun σ' H' r' => q σ' H' (rk' r')
  | ret d => rw [hF] at q; exact fun v H' o => q v H' (by rw [hL]; exact o)
  | stuck => rw [hF] at q; exact q
  | exc c n' ρ1 =>
    simp only [hF] at q
    intro cls d σ' H' r' x'
    by_cases hcn : c ∈ ns
    · simp only [hcn, if_true] at q
      obtain ⟨C, dd, x1, rfl, rfl, x4⟩ := x'
      obtain ⟨C', E⟩ := A c hcn
      have x1' : X.mg c = some (.ref C) := x1
      have := E.gC.symm.trans x1'
      cases this
      refine ⟨true, hE c hcn _ E.ns, fun _ => ⟨_, dd, rfl, rfl, fun a na => q _ _ ?_⟩, fun z => by cases z⟩
      obtain ⟨P, as, bs, g, er, rr, nn, qq⟩ := rk' r'
      rw [hL]
      refine ⟨fun x => P x ∨ x = a, [], ⟨g.same.trans (same_new na), fun x h => .inl (g.le x h), fun x h => ?_⟩, .err E.ns upd_same (.inr rfl) ?_, .nil, fun _ z => nomatch z⟩
      · rcases h with h | rfl
        · rcases g.new x h with z | z | ⟨z, o, hz⟩
          · exact .inl z
          · cases z
          · exact .inr (.inr ⟨z, o, same_new na _ _ hz⟩)
        · exact .inr (.inr ⟨g.same.free na, _, upd_same⟩)
      · rw [upd_ne (fun z => by rw [z, na] at x4; cases x4)]
        exact x4
    · simp only [hcn, if_false] at q
      exact q.elim
end
end DL

set_option Elab.async false
set_option linter.all false
set_option maxRecDepth 100000
set_option maxHeartbeats 2000000
namespace DL
open PySem PySem.Spec L2
open PyProof.Rows hiding St
def sStk : Sv := fun _ => .stuck
def eStk : Ev := fun _ => .stuck
section
variable {X : Cx} {W : WX} {B : Fx} {a b c e : Expr} {pos : Pos} {f1 f2 f3 : Ev} {r1 r2 r3 : List Nat}
theorem ds_stk {st : Stmt} : DS X B st sStk := ⟨fun pins s σ H D I ⟨_, _, _, _, q⟩ => q.elim⟩
theorem de_stk : DE X W e [] eStk := ⟨fun pins s σ H Q I ⟨_, _, _, q⟩ => q.elim⟩
/-- a whole number of the module -/
def GInt (mg : Str → Option Value) (x : Str) (i : Int) : Prop := ∃ t, mg x = some (.int i t)
theorem de_gint {x : Str} {i : Int} (hg : Gl X x) (h : GInt X.mg x i) (hd : (x == ("__debug__" : Str)) = false := by decide) : DE X W (.Name x pos) [] (eC (.int i)) := by
  obtain ⟨t, h⟩ := h
  exact de_c (pe_glob (v := .int i) hg h ⟨t, rfl⟩ hd) fun _ _ => .int i
/-- a op1 b op2 c of whole numbers -/
def eCh (g g' : List D → ER) (f1 f2 f3 : Ev) : Ev := fun ρ => match f1 ρ with
  | .val (.int i) => (match f2 ρ with
    | .val (.int j) => (match g [.int i, .int j] with
      | .val (.bl true) => (match f3 ρ with
        | .val (.int m) => g' [.int j, .int m]
        | _ => .stuck)
      | .val (.bl false) => .val (.bl false)
      | _ => .stuck)
    | _ => .stuck)
  | _ => .stuck
theorem ch_of {g g' : List D → ER} (ng : NoX g') {L : Lt} {σ : St} {H : Hp} {Q : VK} (h : tE L (r1 ++ (r2 ++ r3)) (eCh g g' f1 f2 f3) σ H Q) :
    tChain (fun x y H Q => rD L.K L.w g [x, y] H Q) (fun x y H Q => rD L.K L.w g' [x, y] H Q) (tE L r1 f1) (tE L r2 f2) (tE L r3 f3) σ H Q := by
  obtain ⟨ρ, P, vw, q⟩ := h
  unfold eCh at q
  refine ⟨ρ, P, vw.left, ?_⟩
  split at q
  · rename_i r hr
    split at hr
    · rename_i i h1
      rw [h1]
      intro v H1 o1
      have e1 := o1.same
      obtain ⟨_, _, _, rr, _⟩ := o1
      cases rr
      refine ⟨ρ, P, vw.right.left.same e1, ?_⟩
      split at hr
      · rename_i j h2
        rw [h2]
        intro v H2 o2
        have e2 := o2.same
        obtain ⟨_, _, _, rr, _⟩ := o2
        cases rr
        have fz2 : Fz P H2 := (vw.same (e1.trans e2)).fz
        split at hr
        · rename_i hg
          refine ⟨P, [], [.int i, .int j], .bl true, fz2, .cons (as := []) (.int i) (.cons (as := []) (bs := []) (.int j) .nil), .nil, hg, fun v H3 o3 => ?_⟩
          have e3 := o3.same
          obtain ⟨_, _, _, rr, _⟩ := o3
          cases rr
          refine ⟨true, rfl, ?_⟩
          rw [if_pos rfl]
          refine ⟨ρ, P, vw.right.right.same ((e1.trans e2).trans e3), ?_⟩
          split at hr
          · rename_i m h3
            rw [h3]
            intro v H4 o4
            have e4 := o4.same
            obtain ⟨_, _, _, rr, _⟩ := o4
            cases rr
            exact ⟨P, [], [.int j, .int m], r, (vw.same (((e1.trans e2).trans e3).trans e4)).fz, .cons (as := []) (.int j) (.cons (as := []) (bs := []) (.int m) .nil), .nil, hr, fun v H' o => q v H' (OutL.comb (a1 := []) (.of_same (((e1.trans e2).trans e3).trans e4)) (fun _ z => nomatch z) (fun _ z => nomatch z) o)⟩
          · cases hr
        · rename_i hg
          cases hr
          refine ⟨P, [], [.int i, .int j], .bl false, fz2, .cons (as := []) (.int i) (.cons (as := []) (bs := []) (.int j) .nil), .nil, hg, fun v H3 o3 => ?_⟩
          have e3 := o3.same
          obtain ⟨_, _, _, rr, _⟩ := o3
          cases rr
          refine ⟨false, rfl, ?_⟩
          rw [if_neg (by decide)]
          exact q _ _ (.plain ((e1.trans e2).trans e3) (.bl false))
        · cases hr
      · cases hr
    · cases hr
  · rename_i cc n hr
    split at hr
    · split at hr
      · split at hr
        · split at hr
          · exact absurd hr (ng _ _ _)
          · cases hr
        · cases hr
        · cases hr
      · cases hr
    · cases hr
  · exact q.elim
theorem de_ch {op op' : CmpOp} {g g' : List D → ER} (ho : Op2 X (compareOp op) g) (ho' : Op2 X (compareOp op') g') (ng : NoX g') (ha : DE X W a r1 f1) (hb : DE X W b r2 f2) (hc : DE X W c r3 f3)
    (hm : lastMarks [op, op'] [b, c] = false := by with_unfolding_all rfl) : DE X W (.Compare a [op, op'] [b, c] pos) (r1 ++ (r2 ++ r3)) (eCh g g' f1 f2 f3) :=
  PEi (pe_chain ho ho' ha hb hc hm) fun σ H Q h => ch_of ng h
theorem dt_ch {op op' : CmpOp} {g g' : List D → ER} (ho : Op2 X (compareOp op) g) (ho' : Op2 X (compareOp op') g') (ng : NoX g') (ha : DE X W a r1 f1) (hb : DE X W b r2 f2) (hc : DE X W c r3 f3)
    (hm : lastMarks [op, op'] [b, c] = false := by with_unfolding_all rfl) : DT X W (.Compare a [op, op'] [b, c] pos) (r1 ++ (r2 ++ r3)) (eCh g g' f1 f2 f3) :=
  PTi (pt_chain ho ho' ha hb hc hm) fun σ H Q h => tTest_of (fun σ H Q h => ch_of ng h) h
/-- x in a list of data -/
def inD (d : D) (xs : List D) : Bool := match toPy d, toPys xs with
  | some p, some ps => ps.any fun z => PyData.eqv z p
  | _, _ => false
def gIn : List D → ER
  | [d, .lst o xs] => if (okD d && okD (.lst o xs)) = true then .val (.bl (inD d xs)) else .stuck
  | _ => .stuck
def gNotIn : List D → ER
  | [d, .lst o xs] => if (okD d && okD (.lst o xs)) = true then .val (.bl (!inD d xs)) else .stuck
  | _ => .stuck
theorem NoX.inn : NoX gIn := fun ds c n h => by unfold gIn at h; split at h <;> (first | cases h | (split at h <;> cases h))
theorem NoX.notIn : NoX gNotIn := fun ds c n h => by unfold gNotIn at h; split at h <;> (first | cases h | (split at h <;> cases h))
theorem toPy_lst {o : Bool} {xs : List D} {p : PyData} (h : toPy (.lst o xs) = some p) : ∃ ps, toPys xs = some ps ∧ p = .list ps := by
  simp only [toPy] at h
  cases e : toPys xs with
  | none => rw [e] at h; cases h
  | some ps => rw [e] at h; cases h; exact ⟨ps, rfl, rfl⟩
theorem op_in' (hu : X.A.units + 65 < cLine) : Op2 X (compareOp .In) gIn := OpRi (op_inD hu) fun x y H Q h => by
  obtain ⟨P, a1, a2, d, e, r, fz, r1, r2, ow, hg, q⟩ := rD2 h
  unfold gIn at hg
  split at hg
  · rename_i d' o xs he
    injection he with e1 e2; injection e2 with e2 _; subst e1 e2
    split at hg
    · rename_i hok
      rw [Bool.and_eq_true] at hok
      cases hg
      obtain ⟨p1, t1, s1⟩ := okD_some hok.1
      obtain ⟨p2, t2, s2⟩ := okD_some hok.2
      obtain ⟨ps, t3, rfl⟩ := toPy_lst t2
      refine ⟨p1, ps, r1.dp t1, r2.dp t2, s1, s2, ?_⟩
      unfold inD at q
      rw [t1, t3] at q
      exact q _ H (.plain (.refl _) (.bl _))
    · cases hg
  · cases hg
theorem op_notIn' (hu : X.A.units + 65 < cLine) : Op2 X (compareOp .NotIn) gNotIn := OpRi (op_notInD hu) fun x y H Q h => by
  obtain ⟨P, a1, a2, d, e, r, fz, r1, r2, ow, hg, q⟩ := rD2 h
  unfold gNotIn at hg
  split at hg
  · rename_i d' o xs he
    injection he with e1 e2; injection e2 with e2 _; subst e1 e2
    split at hg
    · rename_i hok
      rw [Bool.and_eq_true] at hok
      cases hg
      obtain ⟨p1, t1, s1⟩ := okD_some hok.1
      obtain ⟨p2, t2, s2⟩ := okD_some hok.2
      obtain ⟨ps, t3, rfl⟩ := toPy_lst t2
      refine ⟨p1, ps, r1.dp t1, r2.dp t2, s1, s2, ?_⟩
      unfold inD at q
      rw [t1, t3] at q
      exact q _ H (.plain (.refl _) (.bl _))
    · cases hg
  · cases hg
theorem room65 {k : Nat} {A : Around} (r : Room k A) : A.units + 65 < cLine := by have := r.un; omega
end
end DL

set_option Elab.async false
set_option linter.all false
set_option maxRecDepth 100000
set_option maxHeartbeats 2000000
namespace DL
open PySem PySem.Spec L2
open PyProof.Rows hiding St
theorem boot_ValueError : bootBuiltins "ValueError" = some (.type "ValueError") := by decide +kernel
theorem boot_int' : bootBuiltins "int" = some (.type "int") := by decide +kernel
theorem boot_bool : bootBuiltins "bool" = some (.type "bool") := by decide +kernel
theorem kit_int_int (K : PySem.W.Frag) : PySem.W.kitOne K (.type "int") (.type "int") = some true := by
  unfold PySem.W.kitOne
  rw [if_pos (by decide +kernel)]
theorem sub_int_bool (K : PySem.W.Frag) : PySem.W.subIn K (.type "int") (.type "bool") = some false := by
  show (fastBuiltinMro "int").map (·.contains (Value.type "bool")) = some false
  kernel_rfl
theorem kit_int_bool (K : PySem.W.Frag) : PySem.W.kitOne K (.type "int") (.type "bool") = some false := by
  unfold PySem.W.kitOne
  rw [if_neg (by decide +kernel)]
  show (if PySem.W.kitMeta "bool" = true then PySem.W.subIn K (.type "int") (.type "bool") else none) = some false
  rw [if_pos (by decide +kernel), sub_int_bool]
section
variable {P : Program} {K : PySem.W.Frag} {mg : Str → Option Value} {h : Heap}
theorem WayAt.gC {c : Str} (T : WayAt P K mg c) : mg c = some (.ref (clsAddr mg c)) := by
  obtain ⟨fI, D, cc, T⟩ := T
  exact T.gC
/-- all that is known of an error class -/
def ErrX (P : Program) (K : PySem.W.Frag) (mg : Str → Option Value) (c : Str) : Prop := ∃ (C fI D cc : Addr) (cd : ClassData) (bm : List Value), PySem.WayX.WayTxt P K mg c C fI D cc ∧ PySem.W.nsIn K mainGlobals c = some (some (.ref C)) ∧ PySem.W.nsIn K mainGlobals "WayError" = some (some (.ref D)) ∧ ExcC K C ∧
  PySem.W.clsIn K C = some cd ∧ cd.name = c ∧ cd.mro = .ref C :: bm ∧ bm.contains (.type "ValueError") = true ∧ (∀ a, bm.contains (Value.ref a) = true → a = D) ∧ (c ≠ "WayError" → bm.contains (Value.ref D) = true)
/-- the references of a list -/
def refsOk (D : Addr) (bm : List Value) : Bool := bm.all fun v => match v with | .ref a => a == D | _ => true
theorem refsOk_ok {D : Addr} {bm : List Value} (h : refsOk D bm = true) (a : Addr) (q : bm.contains (Value.ref a) = true) : a = D := by
  have m : Value.ref a ∈ bm := List.contains_iff_mem.mp q
  have := List.all_eq_true.mp h _ m
  simpa using this
theorem ErrX.of (X : K.In h) (G : h.Ns mainGlobals mg) {c : Str} {C fI D cc cda : Addr} {nm q : Str} {N : Addr} {bs bm : List Value} {sn : List Str} {sub : List Value} {ab : Bool} {col : Option Bool} {dd : Option Addr} {k0 k1 k2 k3 k5 : Option Value}
    {oc doc pm ct : Value} {od an : Option Addr} {osl : Array (Option Value)} {p1 p2 q1 q2 q3 q4 q5 q6 q7 q8 q9 q10 : Pos} {cl : Value} {cld : Option Addr} {csl : Array (Option Value)} {ccl : Value} {cdd : Option Addr} {vs : Array Value} {ccs : Array (Option Value)} {file : Str} {tf : Tok}
    (aC : PySem.W.nsIn K mainGlobals c = some (some (.ref C))) (xL : K.lookup C = some (excClassObj nm q C N bs bm true sn sub ab col dd k0 k1 k2 k3 k5 "ValueError.__new__")) (bmOk : HandSPX.refsVE bm = true)
    (sa : PySem.W.findIn K (.ref C) "__setattr__" = some (some (.builtin "object.__setattr__"))) (ga : PySem.W.findIn K (.ref C) "__getattribute__" = some (some (.builtin "BaseException.__getattribute__"))) (gg : PySem.W.findIn K (.ref C) "__getattr__" = some none) (noN : PySem.W.findIn K (.ref C) "at" = some none)
    (iC : PySem.W.findIn K (.ref C) "__init__" = some (some (.ref fI))) (tC : PySem.W.typeIn K (.ref fI) = some (.type "function")) (kC : PySem.W.keepIn K (.ref C) = true) (exC : PySem.W.subIn K (.ref C) (.type "BaseException") = some true) (tyC : PySem.W.typeIn K (.ref C) = some (.type "type")) (hdC : PySem.W.hasDictIn K C = true)
    (l : K.lookup fI = some ⟨oc, od, .func (PySem.W.ksFn "__init__" "WayError.__init__" (PySem.WayX.iA p1 p2) (PySem.WayX.iB q1 q2 q3 q4 q5 q6 q7 q8 q9 q10) PySem.WayX.iS .none .none doc pm an (.ref cda) ct cc), osl⟩) (hc : PySem.W.codeIn K (.ref cda) "WayError.__init__" = true)
    (cell : K.lookup cc = some ⟨cl, cld, .cell (some (.ref D)), csl⟩) (code : K.lookup cda = some ⟨ccl, cdd, .fields vs, ccs⟩) (hvs : vs[2]? = some (.str file tf)) (hfile : ((P.main.file : Str) == file) = true) (hline : (q3.endLine == q5.line) = true)
    (sup : PySem.W.ks_superIn K C D "__init__" = some (some (.builtin "ValueError.__init__"))) (subV : PySem.W.subIn K (.ref C) (.type "ValueError") = some true) (mroD : PySem.W.mroIn K C (.ref D) = some true) (clD : PySem.W.isClsIn K D = true)
    (opq : PySem.W.nsIn K cStatics "thirdparty.any" = some none) (noS : PySem.W.nsIn K mainGlobals "super" = some none) (top : (P.main.scope.names.lookup ("super" : Str)).isSome = false)
    (aW : PySem.W.nsIn K mainGlobals "WayError" = some (some (.ref D))) (ha : PySem.W.findIn K (.ref C) "__class__" = some (some (.builtin "object.__class__"))) (hn : PySem.W.specialIn K (.builtin "object.__class__") "__get__" = some (some (.builtin "getset_descriptor.__get__"))) (ht : PySem.W.takesIn K (.builtin "object.__class__") = some true) (hm : PySem.W.mroIn K C (.type "object") = some true)
    (e1 : nm = c) (e2 : bm.contains (.type "ValueError") = true) (e3 : refsOk D bm = true) (e4 : (decide (c = "WayError") || bm.contains (Value.ref D)) = true) : ErrX P K mg c := by
  have hcl : PySem.W.clsIn K C = some { name := nm, bases := bs, mro := .ref C :: bm, ns := N, qualname := q, hasDict := true, slotNames := sn, subclasses := sub, abstract := ab, collection := col, hasDel := false } := by unfold PySem.W.clsIn; rw [xL] <;> rfl
  refine ⟨C, fI, D, cc, _, bm, ⟨PySem.W.mg_of X G aC, ⟨nm, q, N, bs, bm, sn, sub, ab, col, dd, k0, k1, k2, k3, k5, xL, bmOk⟩, sa, ga, gg, noN, iC, tC, kC, exC, tyC, hdC, sup, subV, mroD, clD, opq, PySem.W.mg_none_of X G noS, top,
    ⟨oc, od, doc, pm, an, cda, ct, osl, p1, p2, q1, q2, q3, q4, q5, q6, q7, q8, q9, q10, cl, cld, csl, ccl, cdd, vs, ccs, file, tf, hline, l, hc, cell, code, hvs, hfile⟩⟩, aC, aW, ⟨ga, gg, exC, hdC, ha, hn, ht, hm⟩, hcl, e1, rfl, e2, refsOk_ok e3, fun hw => ?_⟩
  rw [Bool.or_eq_true] at e4
  exact e4.resolve_left fun z => hw (of_decide_eq_true z)
theorem ErrX.way {c : Str} (E : ErrX P K mg c) : WayAt P K mg c := by
  obtain ⟨C, fI, D, cc, cd, bm, T, _⟩ := E
  exact .mk T
theorem ErrX.at {c : Str} (E : ErrX P K mg c) : ErrAt P K mg c := by
  obtain ⟨C, fI, D, cc, cd, bm, T, n, _⟩ := E
  exact ⟨C, fI, D, cc, T, n⟩
theorem ErrX.addr {c : Str} {C : Addr} (E : ErrX P K mg c) (n : PySem.W.nsIn K mainGlobals c = some (some (.ref C))) : clsAddr mg c = C := by
  obtain ⟨C', fI, D, cc, cd, bm, T, n', _⟩ := E
  have e : C' = C := by have := n'.symm.trans n; cases this; rfl
  subst e
  unfold clsAddr
  rw [T.gC]
def AllX (P : Program) (K : PySem.W.Frag) (mg : Str → Option Value) (ns : List Str) : Prop := ∀ c ∈ ns, ErrX P K mg c
theorem AllX.nil : AllX P K mg [] := fun c h => nomatch h
theorem AllX.cons {c : Str} {ns : List Str} (E : ErrX P K mg c) (A : AllX P K mg ns) : AllX P K mg (c :: ns) := fun x h => by
  rcases List.mem_cons.mp h with rfl | h
  · exact E
  · exact A x h
theorem AllX.all {ns : List Str} (A : AllX P K mg ns) : ErrAll K mg ns := fun c hc => by
  obtain ⟨C, fI, D, cc, cd, bm, T, n, n2, E, _⟩ := A c hc
  exact ⟨C, n, T.gC, ⟨T.ga, T.gg, T.exC, T.hdC⟩, T.noN, E⟩
theorem kit_of {C CT : Addr} {cd cdT : ClassData} {bm : List Value} (hc : PySem.W.clsIn K C = some cd) (hm : cd.mro = .ref C :: bm) (hT : PySem.W.clsIn K CT = some cdT) (ty : PySem.W.typeIn K (.ref CT) = some (.type "type")) :
    PySem.W.kitOne K (.ref C) (.ref CT) = some (decide (CT = C) || bm.contains (Value.ref CT)) := by
  unfold PySem.W.kitOne
  by_cases e : C = CT
  · subst e
    rw [if_pos (by simp)]
    simp
  · rw [if_neg (by simp [e])]
    show (if ((PySem.W.clsIn K CT).isSome && PySem.W.typeIn K (.ref CT) == some (.type "type")) = true then PySem.W.subIn K (.ref C) (.ref CT) else none) = _
    rw [if_pos (by rw [hT, ty]; rfl)]
    show PySem.W.mroIn K C (.ref CT) = _
    unfold PySem.W.mroIn
    rw [hc, Option.bind_some, hm, if_neg (by simp), List.contains_cons]
    have e' : ¬ CT = C := fun z => e z.symm
    simp [e']
theorem AllX.is {ns : List Str} (A : AllX P K mg ns) {T : Str} (hT : T ∈ ns) (hw : ("WayError" : Str) ∈ ns) (hn : T ≠ "WayError") : IsF K ns (.ref (clsAddr mg T)) (fun c => decide (c = T)) := fun c hc C n => by
  obtain ⟨C', fI, D, cc, cd, bm, Tx, n', n2, E, c1, c2, c3, c4, c5, c6⟩ := A c hc
  have e : C' = C := by have := n'.symm.trans n; cases this; rfl
  subst e
  have AT := A T hT
  obtain ⟨CT, fIT, DT, ccT, cdT, bmT, TxT, nT, n2T, ET, d1, d2, d3, d4, d5, d6⟩ := id AT
  obtain ⟨CW, fIW, DW, ccW, cdW, bmW, TxW, nW, n2W, EW, w1, w2, _⟩ := A "WayError" hw
  have eD : D = CW := by have := n2.symm.trans nW; cases this; rfl
  rw [AT.addr nT, kit_of c1 c3 d1 TxT.tyC]
  congr 1
  have no : bm.contains (Value.ref CT) = false := by
    cases q : bm.contains (Value.ref CT) with
    | false => rfl
    | true =>
      exfalso
      have z := c5 _ q
      rw [z, eD, w1] at d1
      cases d1
      exact hn (d2.symm.trans w2)
  rw [no, Bool.or_false]
  apply decide_eq_decide.mpr
  constructor
  · intro z
    rw [z, c1] at d1
    cases d1
    exact c2.symm.trans d2
  · intro z
    subst z
    have := nT.symm.trans n'
    cases this; rfl
theorem AllX.base {ns : List Str} (A : AllX P K mg ns) (hw : ("WayError" : Str) ∈ ns) : IsF K ns (.ref (clsAddr mg "WayError")) (fun _ => true) := fun c hc C n => by
  obtain ⟨C', fI, D, cc, cd, bm, Tx, n', n2, E, c1, c2, c3, c4, c5, c6⟩ := A c hc
  have e : C' = C := by have := n'.symm.trans n; cases this; rfl
  subst e
  have AW := A "WayError" hw
  obtain ⟨CW, fIW, DW, ccW, cdW, bmW, TxW, nW, n2W, EW, w1, w2, _⟩ := id AW
  have eD : D = CW := by have := n2.symm.trans nW; cases this; rfl
  rw [AW.addr nW, kit_of c1 c3 w1 TxW.tyC]
  congr 1
  by_cases hcw : c = "WayError"
  · have : C' = CW := by subst hcw; have := n'.symm.trans nW; cases this; rfl
    simp [this]
  · rw [← eD, c6 hcw, Bool.or_true]
theorem AllX.value {ns : List Str} (A : AllX P K mg ns) : IsF K ns (.type "ValueError") (fun _ => true) := fun c hc C n => by
  obtain ⟨C', fI, D, cc, cd, bm, Tx, n', n2, E, c1, c2, c3, c4, c5, c6⟩ := A c hc
  have e : C' = C := by have := n'.symm.trans n; cases this; rfl
  subst e
  unfold PySem.W.kitOne
  rw [if_neg (by simp)]
  show (if PySem.W.kitMeta "ValueError" = true then PySem.W.subIn K (.ref C') (.type "ValueError") else none) = _
  rw [if_pos (by decide +kernel)]
  exact Tx.subV
theorem AllX.exm {ns : List Str} (A : AllX P K mg ns) (hw : ("WayError" : Str) ∈ ns) : ExmF K ns (.ref (clsAddr mg "WayError")) := fun c hc C n => by
  obtain ⟨C', fI, D, cc, cd, bm, Tx, n', n2, E, c1, c2, c3, c4, c5, c6⟩ := A c hc
  have e : C' = C := by have := n'.symm.trans n; cases this; rfl
  subst e
  have AW := A "WayError" hw
  obtain ⟨CW, fIW, DW, ccW, cdW, bmW, TxW, nW, n2W, EW, w1, w2, _⟩ := id AW
  have eD : D = CW := by have := n2.symm.trans nW; cases this; rfl
  rw [AW.addr nW, ← eD]
  refine PySem.W.exm_ref ?_ ?_ ?_ Tx.mroD
  · rw [eD]; exact TxW.exC
  · rw [eD]; exact TxW.hdC
  · rw [eD]; exact TxW.tyC
theorem GInt.of (X : K.In h) (G : h.Ns mainGlobals mg) {x : Str} {i : Int} {t : Tok} (a : PySem.W.nsIn K mainGlobals x = some (some (.int i t))) : GInt mg x i := ⟨t, PySem.W.mg_of X G a⟩
end
end DL

set_option Elab.async false
set_option linter.all false
set_option maxRecDepth 100000
set_option maxHeartbeats 2000000
namespace DL
open PySem PySem.Spec L2
open PyProof.Rows hiding St

def top (i : Nat) : Stmt := PySem.Challenge.pw_deedroads_k00_errors_are_apart.main.body.getD i (.Pass ⟨0, 0, 0, 0⟩)
abbrev s_l_draws : Stmt := top 38
abbrev s_l_kinds : Stmt := top 40
abbrev s_l_made : Stmt := top 41
abbrev s_l_mix : Stmt := top 39
abbrev s_first_bad : Stmt := top 32
abbrev s_reached : Stmt := top 36
abbrev s_rest_of : Stmt := top 33
abbrev s_on_rounds : Stmt := top 34
abbrev s_check_drawing : Stmt := top 35
abbrev s_l_raised : Stmt := top 42
abbrev s_law : Stmt := top 43
def errNames : List Str := ["BadAnswer", "BadArrow", "BadCauses", "BadDeed", "BadFinding", "BadKinds", "BadLaw", "BadMarks", "BadRecord", "BadShares", "BadStep", "BadTable", "BadTie", "BadUnseen", "BadValues", "BadWeight", "NoVariable", "NotAChild", "NotASet", "NothingToUndo", "OutOfRange", "Overlap", "Round", "Ties", "TooLarge", "TooMany", "Unfit", "WayError", "WrongSize"]
/-- what the top has left -/
structure Txt (P : Program) (K : PySem.W.Frag) (mg : Str → Option Value) : Prop where
  d_l_draws : DefAt K mg "_law_draws" s_l_draws ["script"]
  d_l_kinds : DefAt K mg "_law_kinds" s_l_kinds ["e"]
  d_l_made : DefAt K mg "_law_made" s_l_made ["n"]
  d_l_mix : DefAt K mg "_law_mix" s_l_mix ["draws", "k", "many"]
  d_first_bad : DefAt K mg "first_bad" s_first_bad ["many", "pairs", "both"]
  d_reached : DefAt K mg "reached" s_reached ["arrows", "starts"]
  d_rest_of : DefAt K mg "rest_of" s_rest_of ["many", "arrows"]
  d_on_rounds : DefAt K mg "on_rounds" s_on_rounds ["many", "arrows"]
  d_check_drawing : DefAt K mg "check_drawing" s_check_drawing ["drawing"]
  d_l_raised : DefAt K mg "_law_raised" s_l_raised ["many"]
  d_law : DefAt K mg "law" s_law ["script"]
  n_ValueError : mg "ValueError" = none
  n_abs : mg "abs" = none
  n_bool : mg "bool" = none
  n_enumerate : mg "enumerate" = none
  n_int : mg "int" = none
  n_isinstance : mg "isinstance" = none
  n_len : mg "len" = none
  n_min : mg "min" = none
  n_range : mg "range" = none
  c_BadAnswer : WayAt P K mg "BadAnswer"
  c_BadArrow : WayAt P K mg "BadArrow"
  c_BadCauses : WayAt P K mg "BadCauses"
  c_BadDeed : WayAt P K mg "BadDeed"
  c_BadFinding : WayAt P K mg "BadFinding"
  c_BadKinds : WayAt P K mg "BadKinds"
  c_BadLaw : WayAt P K mg "BadLaw"
  c_BadMarks : WayAt P K mg "BadMarks"
  c_BadRecord : WayAt P K mg "BadRecord"
  c_BadShares : WayAt P K mg "BadShares"
  c_BadStep : WayAt P K mg "BadStep"
  c_BadTable : WayAt P K mg "BadTable"
  c_BadTie : WayAt P K mg "BadTie"
  c_BadUnseen : WayAt P K mg "BadUnseen"
  c_BadValues : WayAt P K mg "BadValues"
  c_BadWeight : WayAt P K mg "BadWeight"
  c_NoVariable : WayAt P K mg "NoVariable"
  c_NotAChild : WayAt P K mg "NotAChild"
  c_NotASet : WayAt P K mg "NotASet"
  c_NothingToUndo : WayAt P K mg "NothingToUndo"
  c_OutOfRange : WayAt P K mg "OutOfRange"
  c_Overlap : WayAt P K mg "Overlap"
  c_Round : WayAt P K mg "Round"
  c_Ties : WayAt P K mg "Ties"
  c_TooLarge : WayAt P K mg "TooLarge"
  c_TooMany : WayAt P K mg "TooMany"
  c_Unfit : WayAt P K mg "Unfit"
  c_WayError : WayAt P K mg "WayError"
  c_WrongSize : WayAt P K mg "WrongSize"
  k_MOST_VARIABLES : GInt mg "MOST_VARIABLES" 12
  m_BadAnswer : ErrAt P K mg "BadAnswer"
  m_BadArrow : ErrAt P K mg "BadArrow"
  m_BadCauses : ErrAt P K mg "BadCauses"
  m_BadDeed : ErrAt P K mg "BadDeed"
  m_BadFinding : ErrAt P K mg "BadFinding"
  m_BadKinds : ErrAt P K mg "BadKinds"
  m_BadLaw : ErrAt P K mg "BadLaw"
  m_BadMarks : ErrAt P K mg "BadMarks"
  m_BadRecord : ErrAt P K mg "BadRecord"
  m_BadShares : ErrAt P K mg "BadShares"
  m_BadStep : ErrAt P K mg "BadStep"
  m_BadTable : ErrAt P K mg "BadTable"
  m_BadTie : ErrAt P K mg "BadTie"
  m_BadUnseen : ErrAt P K mg "BadUnseen"
  m_BadValues : ErrAt P K mg "BadValues"
  m_BadWeight : ErrAt P K mg "BadWeight"
  m_NoVariable : ErrAt P K mg "NoVariable"
  m_NotAChild : ErrAt P K mg "NotAChild"
  m_NotASet : ErrAt P K mg "NotASet"
  m_NothingToUndo : ErrAt P K mg "NothingToUndo"
  m_OutOfRange : ErrAt P K mg "OutOfRange"
  m_Overlap : ErrAt P K mg "Overlap"
  m_Round : ErrAt P K mg "Round"
  m_Ties : ErrAt P K mg "Ties"
  m_TooLarge : ErrAt P K mg "TooLarge"
  m_TooMany : ErrAt P K mg "TooMany"
  m_Unfit : ErrAt P K mg "Unfit"
  m_WayError : ErrAt P K mg "WayError"
  m_WrongSize : ErrAt P K mg "WrongSize"
  e_all : ErrAll K mg errNames
  is_BadAnswer : IsF K errNames (.ref (clsAddr mg "BadAnswer")) (fun c => decide (c = "BadAnswer"))
  is_BadArrow : IsF K errNames (.ref (clsAddr mg "BadArrow")) (fun c => decide (c = "BadArrow"))
  is_BadCauses : IsF K errNames (.ref (clsAddr mg "BadCauses")) (fun c => decide (c = "BadCauses"))
  is_BadDeed : IsF K errNames (.ref (clsAddr mg "BadDeed")) (fun c => decide (c = "BadDeed"))
  is_BadFinding : IsF K errNames (.ref (clsAddr mg "BadFinding")) (fun c => decide (c = "BadFinding"))
  is_BadKinds : IsF K errNames (.ref (clsAddr mg "BadKinds")) (fun c => decide (c = "BadKinds"))
  is_BadLaw : IsF K errNames (.ref (clsAddr mg "BadLaw")) (fun c => decide (c = "BadLaw"))
  is_BadMarks : IsF K errNames (.ref (clsAddr mg "BadMarks")) (fun c => decide (c = "BadMarks"))
  is_BadRecord : IsF K errNames (.ref (clsAddr mg "BadRecord")) (fun c => decide (c = "BadRecord"))
  is_BadShares : IsF K errNames (.ref (clsAddr mg "BadShares")) (fun c => decide (c = "BadShares"))
  is_BadStep : IsF K errNames (.ref (clsAddr mg "BadStep")) (fun c => decide (c = "BadStep"))
  is_BadTable : IsF K errNames (.ref (clsAddr mg "BadTable")) (fun c => decide (c = "BadTable"))
  is_BadTie : IsF K errNames (.ref (clsAddr mg "BadTie")) (fun c => decide (c = "BadTie"))
  is_BadUnseen : IsF K errNames (.ref (clsAddr mg "BadUnseen")) (fun c => decide (c = "BadUnseen"))
  is_BadValues : IsF K errNames (.ref (clsAddr mg "BadValues")) (fun c => decide (c = "BadValues"))
  is_BadWeight : IsF K errNames (.ref (clsAddr mg "BadWeight")) (fun c => decide (c = "BadWeight"))
  is_NoVariable : IsF K errNames (.ref (clsAddr mg "NoVariable")) (fun c => decide (c = "NoVariable"))
  is_NotAChild : IsF K errNames (.ref (clsAddr mg "NotAChild")) (fun c => decide (c = "NotAChild"))
  is_NotASet : IsF K errNames (.ref (clsAddr mg "NotASet")) (fun c => decide (c = "NotASet"))
  is_NothingToUndo : IsF K errNames (.ref (clsAddr mg "NothingToUndo")) (fun c => decide (c = "NothingToUndo"))
  is_OutOfRange : IsF K errNames (.ref (clsAddr mg "OutOfRange")) (fun c => decide (c = "OutOfRange"))
  is_Overlap : IsF K errNames (.ref (clsAddr mg "Overlap")) (fun c => decide (c = "Overlap"))
  is_Round : IsF K errNames (.ref (clsAddr mg "Round")) (fun c => decide (c = "Round"))
  is_Ties : IsF K errNames (.ref (clsAddr mg "Ties")) (fun c => decide (c = "Ties"))
  is_TooLarge : IsF K errNames (.ref (clsAddr mg "TooLarge")) (fun c => decide (c = "TooLarge"))
  is_TooMany : IsF K errNames (.ref (clsAddr mg "TooMany")) (fun c => decide (c = "TooMany"))
  is_Unfit : IsF K errNames (.ref (clsAddr mg "Unfit")) (fun c => decide (c = "Unfit"))
  is_ValueError : IsF K errNames (.type "ValueError") (fun _ => true)
  is_WayError : IsF K errNames (.ref (clsAddr mg "WayError")) (fun _ => true)
  is_WrongSize : IsF K errNames (.ref (clsAddr mg "WrongSize")) (fun c => decide (c = "WrongSize"))
  exm_WayError : ExmF K errNames (.ref (clsAddr mg "WayError"))
section
variable {P : Program} {w : World} {K : PySem.W.Frag} {mg : Str → Option Value} {base : Heap}
def B_l_draws_1 : Sv := (sIf (eA gGt (lC (eV 3) (lC (eC (.int 0)) lN)))
      (sSeq (sDrop (mMeth 1 [] (mC (mE [3] (eA gMod (lC (eA gInt (lC (eV 3) lN)) (lC (eC (.int 65536)) lN)))) mN) gAppend))
      (sSet 3 (mE [3] (eA gDiv (lC (eV 3) (lC (eC (.int 65536)) lN))))))
      sNx)
def B_l_draws_2 : Sv := (sSeq (sSet 3 (mE [0, 2] (eA gAbs (lC (eA gIx (lC (eV 0) (lC (eV 2) lN))) lN))))
   (sIf (eA gGe (lC (eV 3) (lC (eA gPow (lC (eC (.int 10)) (lC (eC (.int 18)) lN))) lN)))
    (sFor [] (lC (eC (.int 60)) lN) giRng1 (.nm 4)
     B_l_draws_1)
    (sSeq (sSet 5 (mE [3, 2] (eA gMod (lC (eA gInt (lC (eA gAdd (lC (eA gMul (lC (eV 3) (lC (eC (.int 48271)) lN))) (lC (eA gMul (lC (eA gAdd (lC (eV 2) (lC (eC (.int 1)) lN))) (lC (eC (.int 69621)) lN))) lN))) lN)) (lC (eC (.int 2147483647)) lN)))))
    (sSeq (sSet 5 (mE [5, 2] (eA gMod (lC (eA gInt (lC (eA gAdd (lC (eA gAdd (lC (eA gMul (lC (eV 5) (lC (eC (.int 16807)) lN))) (lC (eA gMul (lC (eC (.int 11)) (lC (eV 2) lN))) lN))) (lC (eC (.int 5)) lN))) lN)) (lC (eC (.int 2147483629)) lN)))))
    (sSeq (sDrop (mMeth 1 [] (mC (mE [5] (eA gMod (lC (eA gInt (lC (eV 5) lN)) (lC (eC (.int 65536)) lN)))) mN) gAppend))
    (sDrop (mMeth 1 [] (mC (mE [5] (eA gMod (lC (eA gInt (lC (eA gDiv (lC (eV 5) (lC (eC (.int 65536)) lN))) lN)) (lC (eC (.int 32768)) lN)))) mN) gAppend)))))))
def G_l_draws : Sv :=
  (sSeq (sSet 1 (mE [] (eA gLst lN)))
  (sSeq (sFor [0] (lC (eA gMin (lC (eC (.int 63)) (lC (eA gLen (lC (eV 0) lN)) lN))) lN) giRng1 (.nm 2)
   B_l_draws_2)
  (sRet (mV 1))))
def F_l_draws : List D → ER := runF 6 1 G_l_draws
theorem sc_l_draws : FnScope ["script", "draws", "k", "rest", "turn", "mixed"] ["script"] (defScope s_l_draws) := ⟨rfl, rfl, rfl, by decide +kernel, rfl, by decide +kernel, by decide +kernel⟩
theorem ok_l_draws (T : Txt P K mg) : OkD P w K mg base 2 "_law_draws" ["script"] F_l_draws := OkD.mk' T.d_l_draws sc_l_draws fun f cdv A outer s H E P0 fz hr => by
  have dx := dx_of (P := P) (w := w) (K := K) (mg := mg) (base := base) (outer := outer) (s := s) (H := H) (E := E) sc_l_draws hr
  exact (dss_cons (ds_set (i := 1) (by exact dx.nd) (by rfl) (by first | exact .inl (by rfl) | exact .inr (by rfl)) (dm_e (de_lst da_nil)))
  (dss_cons (ds_for (passes_of rfl) (by exact dx.calm) (di_rng1 (by rfl) (by exact T.n_range) (da_cons (de_callB (call_min' (by exact dx.calm)) NoX.min (by rfl) (by exact T.n_min) boot_min (da_cons de_int (da_cons (de_callB call_len' NoX.len (by rfl) (by exact T.n_len) boot_len (da_cons (de_v (pv 0)) da_nil)) da_nil))) da_nil)) (dg_nm (pg_name (i := 2) (by exact dx.nd) (by rfl) (by first | exact .inl (by rfl) | exact .inr (by rfl))))
   (dss_cons (ds_set (i := 3) (by exact dx.nd) (by rfl) (by first | exact .inl (by rfl) | exact .inr (by rfl)) (dm_e (de_callB call_abs' NoX.abs (by rfl) (by exact T.n_abs) boot_abs (da_cons (de_ix (de_v (pv 0)) (de_v (pv 2)) (by intro _ _; rfl)) da_nil))))
   (dss_one (ds_if (dt_cmp op_ge' NoX.i2 (de_v (pv 3)) (de_op2 op_pow' NoX.i2 de_int de_int) (nomark _))
    (dss_one (ds_for (passes_of rfl) (by exact dx.calm) (di_rng1 (by rfl) (by exact T.n_range) (da_cons de_int da_nil)) (dg_nm (pg_name (i := 4) (by exact dx.nd) (by rfl) (by first | exact .inl (by rfl) | exact .inr (by rfl))))
     (dss_one (ds_if (dt_cmp op_gt' NoX.i2 (de_v (pv 3)) de_int (nomark _))
      (dss_cons (ds_drop (dm_meth F.slot_list_append F.type_list_append mt_append md_append rfl rfl (tp_v (pv 1)) (dmls_cons (dms_e (de_op2 op_mod' NoX.i2 (de_callTy call_int' NoX.int (by rfl) (by exact T.n_int) boot_int (da_cons (de_v (pv 3)) da_nil)) de_int)) dmls_nil)))
      (dss_one (ds_set (i := 3) (by exact dx.nd) (by rfl) (by first | exact .inl (by rfl) | exact .inr (by rfl)) (dm_e (de_op2 op_div' NoX.i2 (de_v (pv 3)) de_int)))))
      dss_nil))))
    (dss_cons (ds_set (i := 5) (by exact dx.nd) (by rfl) (by first | exact .inl (by rfl) | exact .inr (by rfl)) (dm_e (de_op2 op_mod' NoX.i2 (de_callTy call_int' NoX.int (by rfl) (by exact T.n_int) boot_int (da_cons (de_op2 op_add' NoX.add (de_op2 op_mul' NoX.i2 (de_v (pv 3)) de_int) (de_op2 op_mul' NoX.i2 (de_op2 op_add' NoX.add (de_v (pv 2)) de_int) de_int)) da_nil)) de_int)))
    (dss_cons (ds_set (i := 5) (by exact dx.nd) (by rfl) (by first | exact .inl (by rfl) | exact .inr (by rfl)) (dm_e (de_op2 op_mod' NoX.i2 (de_callTy call_int' NoX.int (by rfl) (by exact T.n_int) boot_int (da_cons (de_op2 op_add' NoX.add (de_op2 op_add' NoX.add (de_op2 op_mul' NoX.i2 (de_v (pv 5)) de_int) (de_op2 op_mul' NoX.i2 de_int (de_v (pv 2)))) de_int) da_nil)) de_int)))
    (dss_cons (ds_drop (dm_meth F.slot_list_append F.type_list_append mt_append md_append rfl rfl (tp_v (pv 1)) (dmls_cons (dms_e (de_op2 op_mod' NoX.i2 (de_callTy call_int' NoX.int (by rfl) (by exact T.n_int) boot_int (da_cons (de_v (pv 5)) da_nil)) de_int)) dmls_nil)))
    (dss_one (ds_drop (dm_meth F.slot_list_append F.type_list_append mt_append md_append rfl rfl (tp_v (pv 1)) (dmls_cons (dms_e (de_op2 op_mod' NoX.i2 (de_callTy call_int' NoX.int (by rfl) (by exact T.n_int) boot_int (da_cons (de_op2 op_div' NoX.i2 (de_v (pv 5)) de_int) da_nil)) de_int)) dmls_nil)))))))))))
  (dss_one (ds_ret (dm_v (pv 1))))))
def G_l_kinds : Sv :=
  (sRet (mE [0, 0, 0, 0, 0, 0, 0, 0, 0, 0, 0, 0, 0, 0, 0, 0, 0, 0, 0, 0, 0, 0, 0, 0, 0, 0, 0, 0] (eA gLst (lC (eA (gIs errNames (fun c => decide (c = "OutOfRange"))) (lC (eV 0) lN)) (lC (eA (gIs errNames (fun c => decide (c = "TooMany"))) (lC (eV 0) lN)) (lC (eA (gIs errNames (fun c => decide (c = "TooLarge"))) (lC (eV 0) lN)) (lC (eA (gIs errNames (fun c => decide (c = "WrongSize"))) (lC (eV 0) lN)) (lC (eA (gIs errNames (fun c => decide (c = "NoVariable"))) (lC (eV 0) lN)) (lC (eA (gIs errNames (fun c => decide (c = "NotASet"))) (lC (eV 0) lN)) (lC (eA (gIs errNames (fun c => decide (c = "BadArrow"))) (lC (eV 0) lN)) (lC (eA (gIs errNames (fun c => decide (c = "BadTie"))) (lC (eV 0) lN)) (lC (eA (gIs errNames (fun c => decide (c = "Round"))) (lC (eV 0) lN)) (lC (eA (gIs errNames (fun c => decide (c = "BadValues"))) (lC (eV 0) lN)) (lC (eA (gIs errNames (fun c => decide (c = "BadUnseen"))) (lC (eV 0) lN)) (lC (eA (gIs errNames (fun c => decide (c = "BadTable"))) (lC (eV 0) lN)) (lC (eA (gIs errNames (fun c => decide (c = "BadDeed"))) (lC (eV 0) lN)) (lC (eA (gIs errNames (fun c => decide (c = "BadWeight"))) (lC (eV 0) lN)) (lC (eA (gIs errNames (fun c => decide (c = "Overlap"))) (lC (eV 0) lN)) (lC (eA (gIs errNames (fun c => decide (c = "Ties"))) (lC (eV 0) lN)) (lC (eA (gIs errNames (fun c => decide (c = "BadAnswer"))) (lC (eV 0) lN)) (lC (eA (gIs errNames (fun c => decide (c = "BadStep"))) (lC (eV 0) lN)) (lC (eA (gIs errNames (fun c => decide (c = "NothingToUndo"))) (lC (eV 0) lN)) (lC (eA (gIs errNames (fun c => decide (c = "NotAChild"))) (lC (eV 0) lN)) (lC (eA (gIs errNames (fun c => decide (c = "BadKinds"))) (lC (eV 0) lN)) (lC (eA (gIs errNames (fun c => decide (c = "BadFinding"))) (lC (eV 0) lN)) (lC (eA (gIs errNames (fun c => decide (c = "BadRecord"))) (lC (eV 0) lN)) (lC (eA (gIs errNames (fun c => decide (c = "Unfit"))) (lC (eV 0) lN)) (lC (eA (gIs errNames (fun c => decide (c = "BadCauses"))) (lC (eV 0) lN)) (lC (eA (gIs errNames (fun c => decide (c = "BadLaw"))) (lC (eV 0) lN)) (lC (eA (gIs errNames (fun c => decide (c = "BadMarks"))) (lC (eV 0) lN)) (lC (eA (gIs errNames (fun c => decide (c = "BadShares"))) (lC (eV 0) lN)) lN)))))))))))))))))))))))))))))))
def F_l_kinds : List D → ER := runF 1 1 G_l_kinds
theorem sc_l_kinds : FnScope ["e"] ["e"] (defScope s_l_kinds) := ⟨rfl, rfl, rfl, by decide +kernel, rfl, by decide +kernel, by decide +kernel⟩
theorem ok_l_kinds (T : Txt P K mg) : OkD P w K mg base 2 "_law_kinds" ["e"] F_l_kinds := OkD.mk' T.d_l_kinds sc_l_kinds fun f cdv A outer s H E P0 fz hr => by
  have dx := dx_of (P := P) (w := w) (K := K) (mg := mg) (base := base) (outer := outer) (s := s) (H := H) (E := E) sc_l_kinds hr
  exact (dss_one (ds_ret (dm_e (de_lst (da_cons (de_is T.e_all T.is_OutOfRange (pe_glob (v := .ref _) (by rfl) (WayAt.gC T.c_OutOfRange) rfl) (fun _ h => h) (by rfl) (by exact T.n_isinstance) (de_v (pv 0))) (da_cons (de_is T.e_all T.is_TooMany (pe_glob (v := .ref _) (by rfl) (WayAt.gC T.c_TooMany) rfl) (fun _ h => h) (by rfl) (by exact T.n_isinstance) (de_v (pv 0))) (da_cons (de_is T.e_all T.is_TooLarge (pe_glob (v := .ref _) (by rfl) (WayAt.gC T.c_TooLarge) rfl) (fun _ h => h) (by rfl) (by exact T.n_isinstance) (de_v (pv 0))) (da_cons (de_is T.e_all T.is_WrongSize (pe_glob (v := .ref _) (by rfl) (WayAt.gC T.c_WrongSize) rfl) (fun _ h => h) (by rfl) (by exact T.n_isinstance) (de_v (pv 0))) (da_cons (de_is T.e_all T.is_NoVariable (pe_glob (v := .ref _) (by rfl) (WayAt.gC T.c_NoVariable) rfl) (fun _ h => h) (by rfl) (by exact T.n_isinstance) (de_v (pv 0))) (da_cons (de_is T.e_all T.is_NotASet (pe_glob (v := .ref _) (by rfl) (WayAt.gC T.c_NotASet) rfl) (fun _ h => h) (by rfl) (by exact T.n_isinstance) (de_v (pv 0))) (da_cons (de_is T.e_all T.is_BadArrow (pe_glob (v := .ref _) (by rfl) (WayAt.gC T.c_BadArrow) rfl) (fun _ h => h) (by rfl) (by exact T.n_isinstance) (de_v (pv 0))) (da_cons (de_is T.e_all T.is_BadTie (pe_glob (v := .ref _) (by rfl) (WayAt.gC T.c_BadTie) rfl) (fun _ h => h) (by rfl) (by exact T.n_isinstance) (de_v (pv 0))) (da_cons (de_is T.e_all T.is_Round (pe_glob (v := .ref _) (by rfl) (WayAt.gC T.c_Round) rfl) (fun _ h => h) (by rfl) (by exact T.n_isinstance) (de_v (pv 0))) (da_cons (de_is T.e_all T.is_BadValues (pe_glob (v := .ref _) (by rfl) (WayAt.gC T.c_BadValues) rfl) (fun _ h => h) (by rfl) (by exact T.n_isinstance) (de_v (pv 0))) (da_cons (de_is T.e_all T.is_BadUnseen (pe_glob (v := .ref _) (by rfl) (WayAt.gC T.c_BadUnseen) rfl) (fun _ h => h) (by rfl) (by exact T.n_isinstance) (de_v (pv 0))) (da_cons (de_is T.e_all T.is_BadTable (pe_glob (v := .ref _) (by rfl) (WayAt.gC T.c_BadTable) rfl) (fun _ h => h) (by rfl) (by exact T.n_isinstance) (de_v (pv 0))) (da_cons (de_is T.e_all T.is_BadDeed (pe_glob (v := .ref _) (by rfl) (WayAt.gC T.c_BadDeed) rfl) (fun _ h => h) (by rfl) (by exact T.n_isinstance) (de_v (pv 0))) (da_cons (de_is T.e_all T.is_BadWeight (pe_glob (v := .ref _) (by rfl) (WayAt.gC T.c_BadWeight) rfl) (fun _ h => h) (by rfl) (by exact T.n_isinstance) (de_v (pv 0))) (da_cons (de_is T.e_all T.is_Overlap (pe_glob (v := .ref _) (by rfl) (WayAt.gC T.c_Overlap) rfl) (fun _ h => h) (by rfl) (by exact T.n_isinstance) (de_v (pv 0))) (da_cons (de_is T.e_all T.is_Ties (pe_glob (v := .ref _) (by rfl) (WayAt.gC T.c_Ties) rfl) (fun _ h => h) (by rfl) (by exact T.n_isinstance) (de_v (pv 0))) (da_cons (de_is T.e_all T.is_BadAnswer (pe_glob (v := .ref _) (by rfl) (WayAt.gC T.c_BadAnswer) rfl) (fun _ h => h) (by rfl) (by exact T.n_isinstance) (de_v (pv 0))) (da_cons (de_is T.e_all T.is_BadStep (pe_glob (v := .ref _) (by rfl) (WayAt.gC T.c_BadStep) rfl) (fun _ h => h) (by rfl) (by exact T.n_isinstance) (de_v (pv 0))) (da_cons (de_is T.e_all T.is_NothingToUndo (pe_glob (v := .ref _) (by rfl) (WayAt.gC T.c_NothingToUndo) rfl) (fun _ h => h) (by rfl) (by exact T.n_isinstance) (de_v (pv 0))) (da_cons (de_is T.e_all T.is_NotAChild (pe_glob (v := .ref _) (by rfl) (WayAt.gC T.c_NotAChild) rfl) (fun _ h => h) (by rfl) (by exact T.n_isinstance) (de_v (pv 0))) (da_cons (de_is T.e_all T.is_BadKinds (pe_glob (v := .ref _) (by rfl) (WayAt.gC T.c_BadKinds) rfl) (fun _ h => h) (by rfl) (by exact T.n_isinstance) (de_v (pv 0))) (da_cons (de_is T.e_all T.is_BadFinding (pe_glob (v := .ref _) (by rfl) (WayAt.gC T.c_BadFinding) rfl) (fun _ h => h) (by rfl) (by exact T.n_isinstance) (de_v (pv 0))) (da_cons (de_is T.e_all T.is_BadRecord (pe_glob (v := .ref _) (by rfl) (WayAt.gC T.c_BadRecord) rfl) (fun _ h => h) (by rfl) (by exact T.n_isinstance) (de_v (pv 0))) (da_cons (de_is T.e_all T.is_Unfit (pe_glob (v := .ref _) (by rfl) (WayAt.gC T.c_Unfit) rfl) (fun _ h => h) (by rfl) (by exact T.n_isinstance) (de_v (pv 0))) (da_cons (de_is T.e_all T.is_BadCauses (pe_glob (v := .ref _) (by rfl) (WayAt.gC T.c_BadCauses) rfl) (fun _ h => h) (by rfl) (by exact T.n_isinstance) (de_v (pv 0))) (da_cons (de_is T.e_all T.is_BadLaw (pe_glob (v := .ref _) (by rfl) (WayAt.gC T.c_BadLaw) rfl) (fun _ h => h) (by rfl) (by exact T.n_isinstance) (de_v (pv 0))) (da_cons (de_is T.e_all T.is_BadMarks (pe_glob (v := .ref _) (by rfl) (WayAt.gC T.c_BadMarks) rfl) (fun _ h => h) (by rfl) (by exact T.n_isinstance) (de_v (pv 0))) (da_cons (de_is T.e_all T.is_BadShares (pe_glob (v := .ref _) (by rfl) (WayAt.gC T.c_BadShares) rfl) (fun _ h => h) (by rfl) (by exact T.n_isinstance) (de_v (pv 0))) da_nil))))))))))))))))))))))))))))))))
def G_l_made : Sv :=
  (sRet (mE [0, 0, 0, 0, 0, 0, 0, 0, 0, 0, 0, 0, 0, 0, 0, 0, 0, 0, 0, 0, 0, 0, 0, 0, 0, 0, 0, 0] (eA gLst (lC (eA (gMk "OutOfRange") (lC (eA gAdd (lC (eV 0) (lC (eC (.int 0)) lN))) lN)) (lC (eA (gMk "TooMany") (lC (eA gAdd (lC (eV 0) (lC (eC (.int 1)) lN))) lN)) (lC (eA (gMk "TooLarge") (lC (eA gAdd (lC (eV 0) (lC (eC (.int 2)) lN))) lN)) (lC (eA (gMk "WrongSize") (lC (eA gAdd (lC (eV 0) (lC (eC (.int 3)) lN))) lN)) (lC (eA (gMk "NoVariable") (lC (eA gAdd (lC (eV 0) (lC (eC (.int 4)) lN))) lN)) (lC (eA (gMk "NotASet") (lC (eA gAdd (lC (eV 0) (lC (eC (.int 5)) lN))) lN)) (lC (eA (gMk "BadArrow") (lC (eA gAdd (lC (eV 0) (lC (eC (.int 6)) lN))) lN)) (lC (eA (gMk "BadTie") (lC (eA gAdd (lC (eV 0) (lC (eC (.int 7)) lN))) lN)) (lC (eA (gMk "Round") (lC (eA gAdd (lC (eV 0) (lC (eC (.int 8)) lN))) lN)) (lC (eA (gMk "BadValues") (lC (eA gAdd (lC (eV 0) (lC (eC (.int 9)) lN))) lN)) (lC (eA (gMk "BadUnseen") (lC (eA gAdd (lC (eV 0) (lC (eC (.int 10)) lN))) lN)) (lC (eA (gMk "BadTable") (lC (eA gAdd (lC (eV 0) (lC (eC (.int 11)) lN))) lN)) (lC (eA (gMk "BadDeed") (lC (eA gAdd (lC (eV 0) (lC (eC (.int 12)) lN))) lN)) (lC (eA (gMk "BadWeight") (lC (eA gAdd (lC (eV 0) (lC (eC (.int 13)) lN))) lN)) (lC (eA (gMk "Overlap") (lC (eA gAdd (lC (eV 0) (lC (eC (.int 14)) lN))) lN)) (lC (eA (gMk "Ties") (lC (eA gAdd (lC (eV 0) (lC (eC (.int 15)) lN))) lN)) (lC (eA (gMk "BadAnswer") (lC (eA gAdd (lC (eV 0) (lC (eC (.int 16)) lN))) lN)) (lC (eA (gMk "BadStep") (lC (eA gAdd (lC (eV 0) (lC (eC (.int 17)) lN))) lN)) (lC (eA (gMk "NothingToUndo") (lC (eA gAdd (lC (eV 0) (lC (eC (.int 18)) lN))) lN)) (lC (eA (gMk "NotAChild") (lC (eA gAdd (lC (eV 0) (lC (eC (.int 19)) lN))) lN)) (lC (eA (gMk "BadKinds") (lC (eA gAdd (lC (eV 0) (lC (eC (.int 20)) lN))) lN)) (lC (eA (gMk "BadFinding") (lC (eA gAdd (lC (eV 0) (lC (eC (.int 21)) lN))) lN)) (lC (eA (gMk "BadRecord") (lC (eA gAdd (lC (eV 0) (lC (eC (.int 22)) lN))) lN)) (lC (eA (gMk "Unfit") (lC (eA gAdd (lC (eV 0) (lC (eC (.int 23)) lN))) lN)) (lC (eA (gMk "BadCauses") (lC (eA gAdd (lC (eV 0) (lC (eC (.int 24)) lN))) lN)) (lC (eA (gMk "BadLaw") (lC (eA gAdd (lC (eV 0) (lC (eC (.int 25)) lN))) lN)) (lC (eA (gMk "BadMarks") (lC (eA gAdd (lC (eV 0) (lC (eC (.int 26)) lN))) lN)) (lC (eA (gMk "BadShares") (lC (eA gAdd (lC (eV 0) (lC (eC (.int 27)) lN))) lN)) lN)))))))))))))))))))))))))))))))
def F_l_made : List D → ER := runF 1 1 G_l_made
theorem sc_l_made : FnScope ["n"] ["n"] (defScope s_l_made) := ⟨rfl, rfl, rfl, by decide +kernel, rfl, by decide +kernel, by decide +kernel⟩
theorem ok_l_made (T : Txt P K mg) : OkD P w K mg base 2 "_law_made" ["n"] F_l_made := OkD.mk' T.d_l_made sc_l_made fun f cdv A outer s H E P0 fz hr => by
  have dx := dx_of (P := P) (w := w) (K := K) (mg := mg) (base := base) (outer := outer) (s := s) (H := H) (E := E) sc_l_made hr
  exact (dss_one (ds_ret (dm_e (de_lst (da_cons (de_mk dx T.m_OutOfRange (da_cons (de_op2 op_add' NoX.add (de_v (pv 0)) de_int) da_nil) (by rfl)) (da_cons (de_mk dx T.m_TooMany (da_cons (de_op2 op_add' NoX.add (de_v (pv 0)) de_int) da_nil) (by rfl)) (da_cons (de_mk dx T.m_TooLarge (da_cons (de_op2 op_add' NoX.add (de_v (pv 0)) de_int) da_nil) (by rfl)) (da_cons (de_mk dx T.m_WrongSize (da_cons (de_op2 op_add' NoX.add (de_v (pv 0)) de_int) da_nil) (by rfl)) (da_cons (de_mk dx T.m_NoVariable (da_cons (de_op2 op_add' NoX.add (de_v (pv 0)) de_int) da_nil) (by rfl)) (da_cons (de_mk dx T.m_NotASet (da_cons (de_op2 op_add' NoX.add (de_v (pv 0)) de_int) da_nil) (by rfl)) (da_cons (de_mk dx T.m_BadArrow (da_cons (de_op2 op_add' NoX.add (de_v (pv 0)) de_int) da_nil) (by rfl)) (da_cons (de_mk dx T.m_BadTie (da_cons (de_op2 op_add' NoX.add (de_v (pv 0)) de_int) da_nil) (by rfl)) (da_cons (de_mk dx T.m_Round (da_cons (de_op2 op_add' NoX.add (de_v (pv 0)) de_int) da_nil) (by rfl)) (da_cons (de_mk dx T.m_BadValues (da_cons (de_op2 op_add' NoX.add (de_v (pv 0)) de_int) da_nil) (by rfl)) (da_cons (de_mk dx T.m_BadUnseen (da_cons (de_op2 op_add' NoX.add (de_v (pv 0)) de_int) da_nil) (by rfl)) (da_cons (de_mk dx T.m_BadTable (da_cons (de_op2 op_add' NoX.add (de_v (pv 0)) de_int) da_nil) (by rfl)) (da_cons (de_mk dx T.m_BadDeed (da_cons (de_op2 op_add' NoX.add (de_v (pv 0)) de_int) da_nil) (by rfl)) (da_cons (de_mk dx T.m_BadWeight (da_cons (de_op2 op_add' NoX.add (de_v (pv 0)) de_int) da_nil) (by rfl)) (da_cons (de_mk dx T.m_Overlap (da_cons (de_op2 op_add' NoX.add (de_v (pv 0)) de_int) da_nil) (by rfl)) (da_cons (de_mk dx T.m_Ties (da_cons (de_op2 op_add' NoX.add (de_v (pv 0)) de_int) da_nil) (by rfl)) (da_cons (de_mk dx T.m_BadAnswer (da_cons (de_op2 op_add' NoX.add (de_v (pv 0)) de_int) da_nil) (by rfl)) (da_cons (de_mk dx T.m_BadStep (da_cons (de_op2 op_add' NoX.add (de_v (pv 0)) de_int) da_nil) (by rfl)) (da_cons (de_mk dx T.m_NothingToUndo (da_cons (de_op2 op_add' NoX.add (de_v (pv 0)) de_int) da_nil) (by rfl)) (da_cons (de_mk dx T.m_NotAChild (da_cons (de_op2 op_add' NoX.add (de_v (pv 0)) de_int) da_nil) (by rfl)) (da_cons (de_mk dx T.m_BadKinds (da_cons (de_op2 op_add' NoX.add (de_v (pv 0)) de_int) da_nil) (by rfl)) (da_cons (de_mk dx T.m_BadFinding (da_cons (de_op2 op_add' NoX.add (de_v (pv 0)) de_int) da_nil) (by rfl)) (da_cons (de_mk dx T.m_BadRecord (da_cons (de_op2 op_add' NoX.add (de_v (pv 0)) de_int) da_nil) (by rfl)) (da_cons (de_mk dx T.m_Unfit (da_cons (de_op2 op_add' NoX.add (de_v (pv 0)) de_int) da_nil) (by rfl)) (da_cons (de_mk dx T.m_BadCauses (da_cons (de_op2 op_add' NoX.add (de_v (pv 0)) de_int) da_nil) (by rfl)) (da_cons (de_mk dx T.m_BadLaw (da_cons (de_op2 op_add' NoX.add (de_v (pv 0)) de_int) da_nil) (by rfl)) (da_cons (de_mk dx T.m_BadMarks (da_cons (de_op2 op_add' NoX.add (de_v (pv 0)) de_int) da_nil) (by rfl)) (da_cons (de_mk dx T.m_BadShares (da_cons (de_op2 op_add' NoX.add (de_v (pv 0)) de_int) da_nil) (by rfl)) da_nil))))))))))))))))))))))))))))))))
def G_l_mix : Sv :=
  (sSeq (sSet 3 (mE [] (eC (.int 0))))
  (sSeq (sIf (eA gGt (lC (eA gLen (lC (eV 0) lN)) (lC (eC (.int 0)) lN)))
   (sSet 3 (mE [0, 1, 0] (eA gIx (lC (eV 0) (lC (eA gMod (lC (eA gInt (lC (eV 1) lN)) (lC (eA gLen (lC (eV 0) lN)) lN))) lN)))))
   sNx)
  (sSeq (sIf (eA gLt (lC (eV 1) (lC (eA gLen (lC (eV 0) lN)) lN)))
   (sRet (mE [3, 2] (eA gMod (lC (eA gInt (lC (eV 3) lN)) (lC (eV 2) lN)))))
   sNx)
  (sRet (mE [3, 1, 2] (eA gMod (lC (eA gInt (lC (eA gDiv (lC (eA gInt (lC (eA gAdd (lC (eA gMul (lC (eV 3) (lC (eC (.int 7919)) lN))) (lC (eA gMul (lC (eV 1) (lC (eC (.int 104729)) lN))) lN))) lN)) (lC (eC (.int 3)) lN))) lN)) (lC (eV 2) lN))))))))
def F_l_mix : List D → ER := runF 4 3 G_l_mix
theorem sc_l_mix : FnScope ["draws", "k", "many", "value"] ["draws", "k", "many"] (defScope s_l_mix) := ⟨rfl, rfl, rfl, by decide +kernel, rfl, by decide +kernel, by decide +kernel⟩
theorem ok_l_mix (T : Txt P K mg) : OkD P w K mg base 2 "_law_mix" ["draws", "k", "many"] F_l_mix := OkD.mk' T.d_l_mix sc_l_mix fun f cdv A outer s H E P0 fz hr => by
  have dx := dx_of (P := P) (w := w) (K := K) (mg := mg) (base := base) (outer := outer) (s := s) (H := H) (E := E) sc_l_mix hr
  exact (dss_cons (ds_set (i := 3) (by exact dx.nd) (by rfl) (by first | exact .inl (by rfl) | exact .inr (by rfl)) (dm_e de_int))
  (dss_cons (ds_if (dt_cmp op_gt' NoX.i2 (de_callB call_len' NoX.len (by rfl) (by exact T.n_len) boot_len (da_cons (de_v (pv 0)) da_nil)) de_int (nomark _))
   (dss_one (ds_set (i := 3) (by exact dx.nd) (by rfl) (by first | exact .inl (by rfl) | exact .inr (by rfl)) (dm_e (de_ix (de_v (pv 0)) (de_op2 op_mod' NoX.i2 (de_callTy call_int' NoX.int (by rfl) (by exact T.n_int) boot_int (da_cons (de_v (pv 1)) da_nil)) (de_callB call_len' NoX.len (by rfl) (by exact T.n_len) boot_len (da_cons (de_v (pv 0)) da_nil))) (by intro _ _; rfl)))))
   dss_nil)
  (dss_cons (ds_if (dt_cmp op_lt' NoX.i2 (de_v (pv 1)) (de_callB call_len' NoX.len (by rfl) (by exact T.n_len) boot_len (da_cons (de_v (pv 0)) da_nil)) (nomark _))
   (dss_one (ds_ret (dm_e (de_op2 op_mod' NoX.i2 (de_callTy call_int' NoX.int (by rfl) (by exact T.n_int) boot_int (da_cons (de_v (pv 3)) da_nil)) (de_v (pv 2))))))
   dss_nil)
  (dss_one (ds_ret (dm_e (de_op2 op_mod' NoX.i2 (de_callTy call_int' NoX.int (by rfl) (by exact T.n_int) boot_int (da_cons (de_op2 op_div' NoX.i2 (de_callTy call_int' NoX.int (by rfl) (by exact T.n_int) boot_int (da_cons (de_op2 op_add' NoX.add (de_op2 op_mul' NoX.i2 (de_v (pv 3)) de_int) (de_op2 op_mul' NoX.i2 (de_v (pv 1)) de_int)) da_nil)) de_int) da_nil)) (de_v (pv 2)))))))))
def B_first_bad_1 : Sv := (sSeq (sIf (eOr (eNot (eCh gLe gLt (eC (.int 0)) (eV 4) (eV 0))) (eOr (eNot (eCh gLe gLt (eC (.int 0)) (eV 5) (eV 0))) (eOr (eA gEq (lC (eV 4) (lC (eV 5) lN))) (eAnd (eV 2) (eA gGt (lC (eV 4) (lC (eV 5) lN)))))))
    (sRet (mV 3))
    sNx)
   (sIf (eAnd (eA gGt (lC (eV 3) (lC (eC (.int 0)) lN))) (eA gGe (lC (eA gIx (lC (eV 1) (lC (eA gSub (lC (eV 3) (lC (eC (.int 1)) lN))) lN))) (lC (eA gTup (lC (eV 4) (lC (eV 5) lN))) lN))))
    (sRet (mV 3))
    sNx))
def G_first_bad : Sv :=
  (sSeq (sFor [1] (lC (eV 1) lN) giEnum (.tp [(.nm 3), (.tp [(.nm 4), (.nm 5)])])
   B_first_bad_1)
  (sRet (mE [] (eC .non))))
def F_first_bad : List D → ER := runF 6 3 G_first_bad
theorem sc_first_bad : FnScope ["many", "pairs", "both", "k", "a", "b"] ["many", "pairs", "both"] (defScope s_first_bad) := ⟨rfl, rfl, rfl, by decide +kernel, rfl, by decide +kernel, by decide +kernel⟩
theorem ok_first_bad (T : Txt P K mg) : OkD P w K mg base 2 "first_bad" ["many", "pairs", "both"] F_first_bad := OkD.mk' T.d_first_bad sc_first_bad fun f cdv A outer s H E P0 fz hr => by
  have dx := dx_of (P := P) (w := w) (K := K) (mg := mg) (base := base) (outer := outer) (s := s) (H := H) (E := E) sc_first_bad hr
  exact (dss_cons (ds_for (passes_of rfl) (by exact dx.calm) (di_enum (by rfl) (by exact T.n_enumerate) (da_cons (de_v (pv 1)) da_nil)) (dg_tup (by exact dx.calm) (dgs_cons (dg_nm (pg_name (i := 3) (by exact dx.nd) (by rfl) (by first | exact .inl (by rfl) | exact .inr (by rfl)))) (dgs_cons (dg_tup (by exact dx.calm) (dgs_cons (dg_nm (pg_name (i := 4) (by exact dx.nd) (by rfl) (by first | exact .inl (by rfl) | exact .inr (by rfl)))) (dgs_cons (dg_nm (pg_name (i := 5) (by exact dx.nd) (by rfl) (by first | exact .inl (by rfl) | exact .inr (by rfl)))) dgs_nil))) dgs_nil)))
   (dss_cons (ds_if (PW.pt (dw_or (dt_not (dt_ch op_le' op_lt' NoX.i2 de_int (de_v (pv 4)) (de_v (pv 0)))) (dw_or (dt_not (dt_ch op_le' op_lt' NoX.i2 de_int (de_v (pv 5)) (de_v (pv 0)))) (dw_or (dt_cmp (op_eq' (by exact dx.rm.units)) NoX.eq (de_v (pv 4)) (de_v (pv 5)) (nomark _)) (dw_or1 (PW.pt (dw_and (dt_val (de_v (pv 2))) (dw_and1 (dt_cmp op_gt' NoX.i2 (de_v (pv 4)) (de_v (pv 5)) (nomark _))))))))))
    (dss_one (ds_ret (dm_v (pv 3))))
    dss_nil)
   (dss_one (ds_if (PW.pt (dw_and (dt_cmp op_gt' NoX.i2 (de_v (pv 3)) de_int (nomark _)) (dw_and1 (dt_cmp op_ge' NoX.i2 (de_ix (de_v (pv 1)) (de_op2 op_sub' NoX.i2 (de_v (pv 3)) de_int) (by intro _ _; rfl)) (de_tup (da_cons (de_v (pv 4)) (da_cons (de_v (pv 5)) da_nil))) (nomark _)))))
    (dss_one (ds_ret (dm_v (pv 3))))
    dss_nil))))
  (dss_one (ds_ret (dm_e de_non))))
noncomputable def G_reached : Sv :=
  (sSeq sStk
  (sSeq (sSet 4 (mE [] (eC (.bl true))))
  (sSeq (sWhile (eV 4)
   (sSeq (sSet 5 (mE [0, 6, 2, 7, 2, 7] (eLc (lC (eV 0) lN) giSeq (.tp [(.nm 6), (.nm 7)]) [6, 7] (eAnd (eA gIn (lC (eV 6) (lC (eV 2) lN))) (eA gNotIn (lC (eV 7) (lC (eV 2) lN)))) (eV 7))))
   (sSeq sStk
   (sSet 4 (mE [5] (eA gGt (lC (eA gLen (lC (eV 5) lN)) (lC (eC (.int 0)) lN))))))))
  (sRet (mV 2)))))
noncomputable def F_reached : List D → ER := runF 8 2 G_reached
theorem sc_reached : FnScope ["arrows", "starts", "found", "v", "moved", "more", "a", "b"] ["arrows", "starts"] (defScope s_reached) := ⟨rfl, rfl, rfl, by decide +kernel, rfl, by decide +kernel, by decide +kernel⟩
theorem ok_reached (T : Txt P K mg) : OkD P w K mg base 2 "reached" ["arrows", "starts"] F_reached := OkD.mk' T.d_reached sc_reached fun f cdv A outer s H E P0 fz hr => by
  have dx := dx_of (P := P) (w := w) (K := K) (mg := mg) (base := base) (outer := outer) (s := s) (H := H) (E := E) sc_reached hr
  exact (dss_cons ds_stk
  (dss_cons (ds_set (i := 4) (by exact dx.nd) (by rfl) (by first | exact .inl (by rfl) | exact .inr (by rfl)) (dm_e de_bl))
  (dss_cons (ds_while (passes_of rfl) (dt_val (de_v (pv 4)))
   (dss_cons (ds_setLc (i := 5) dx rfl rfl rfl rfl (di_seq (de_v (pv 0))) (own := [("a", 6), ("b", 7)]) (blkOk_by (by kernel_rfl)) (by simp [Tg.slots, tgSlots]) (fun s1 H1 C1 cl1 fp1 => (dgv_tup (by exact dx.calm) (dgvs_cons (dgv_nm (pg_name (i := 6) (by exact dx.nd) (by rfl) (by first | exact .inl (by rfl) | exact .inr (by rfl)))) (dgvs_cons (dgv_nm (pg_name (i := 7) (by exact dx.nd) (by rfl) (by first | exact .inl (by rfl) | exact .inr (by rfl)))) dgvs_nil)))) (fun s1 H1 C1 cl1 fp1 => (dts_one (PW.pt (dw_and (dt_cmp (op_in' (by exact room65 dx.rm)) NoX.inn (de_v (pv 6)) (de_v (pv 2)) (by rfl)) (dw_and1 (dt_cmp (op_notIn' (by exact room65 dx.rm)) NoX.notIn (de_v (pv 7)) (de_v (pv 2)) (by rfl))))))) (fun s1 H1 C1 cl1 fp1 => (de_v (pv 7))))
   (dss_cons ds_stk
   (dss_one (ds_set (i := 4) (by exact dx.nd) (by rfl) (by first | exact .inl (by rfl) | exact .inr (by rfl)) (dm_e (de_cmp op_gt' NoX.i2 (de_callB call_len' NoX.len (by rfl) (by exact T.n_len) boot_len (da_cons (de_v (pv 5)) da_nil)) de_int (nomark _))))))))
  (dss_one (ds_ret (dm_v (pv 2)))))))
noncomputable def G_rest_of : Sv :=
  (sSeq sStk
  (sSeq (sSet 3 (mE [] (eC (.bl true))))
  (sSeq (sWhile (eV 3)
   (sSeq (sSet 4 (mE [2, 1, 7, 5, 6, 2, 6, 5] (eLc (lC (eV 2) lN) giSeq (.nm 5) [5] (eA gEq (lC (eA gLen (lC (eLc (lC (eV 1) lN) giSeq (.tp [(.nm 6), (.nm 7)]) [6, 7] (eAnd (eA gEq (lC (eV 7) (lC (eV 5) lN))) (eA gIn (lC (eV 6) (lC (eV 2) lN)))) (eV 6)) lN)) (lC (eC (.int 0)) lN))) (eV 5))))
   (sSeq (sSet 2 (mE [2, 5, 4, 5] (eLc (lC (eV 2) lN) giSeq (.nm 5) [5] (eA gNotIn (lC (eV 5) (lC (eV 4) lN))) (eV 5))))
   (sSet 3 (mE [4] (eA gGt (lC (eA gLen (lC (eV 4) lN)) (lC (eC (.int 0)) lN))))))))
  (sRet (mV 2)))))
noncomputable def F_rest_of : List D → ER := runF 8 2 G_rest_of
theorem sc_rest_of : FnScope ["many", "arrows", "left", "moved", "free", "v", "a", "b"] ["many", "arrows"] (defScope s_rest_of) := ⟨rfl, rfl, rfl, by decide +kernel, rfl, by decide +kernel, by decide +kernel⟩
theorem ok_rest_of (T : Txt P K mg) : OkD P w K mg base 2 "rest_of" ["many", "arrows"] F_rest_of := OkD.mk' T.d_rest_of sc_rest_of fun f cdv A outer s H E P0 fz hr => by
  have dx := dx_of (P := P) (w := w) (K := K) (mg := mg) (base := base) (outer := outer) (s := s) (H := H) (E := E) sc_rest_of hr
  exact (dss_cons ds_stk
  (dss_cons (ds_set (i := 3) (by exact dx.nd) (by rfl) (by first | exact .inl (by rfl) | exact .inr (by rfl)) (dm_e de_bl))
  (dss_cons (ds_while (passes_of rfl) (dt_val (de_v (pv 3)))
   (dss_cons (ds_set (i := 4) (by exact dx.nd) (by rfl) (by first | exact .inl (by rfl) | exact .inr (by rfl)) (dm_e (de_lc dx (di_seq (de_v (pv 2))) (own := [("v", 5)]) (blkOk_by (by kernel_rfl)) (by simp [Tg.slots, tgSlots]) (fun s1 H1 C1 cl1 fp1 => (dgv_nm (pg_name (i := 5) (by exact dx.nd) (by rfl) (by first | exact .inl (by rfl) | exact .inr (by rfl))))) (fun s1 H1 C1 cl1 fp1 => (dts_one (dt_cmp (op_eq' (by exact dx.rm.units)) NoX.eq (de_callB call_len' NoX.len (by rfl) (by exact T.n_len) boot_len (da_cons (de_lc (dx_blk dx s1 H1 _ _ fp1) (di_seq (de_v (pv 1))) (own := [("a", 6), ("b", 7)]) (blkOk_by (by kernel_rfl)) (by simp [Tg.slots, tgSlots]) (fun s2 H2 C2 cl2 fp2 => (dgv_tup (by exact dx.calm) (dgvs_cons (dgv_nm (pg_name (i := 6) (by exact dx.nd) (by rfl) (by first | exact .inl (by rfl) | exact .inr (by rfl)))) (dgvs_cons (dgv_nm (pg_name (i := 7) (by exact dx.nd) (by rfl) (by first | exact .inl (by rfl) | exact .inr (by rfl)))) dgvs_nil)))) (fun s2 H2 C2 cl2 fp2 => (dts_one (PW.pt (dw_and (dt_cmp (op_eq' (by exact dx.rm.units)) NoX.eq (de_v (pv 7)) (de_v (pv 5)) (nomark _)) (dw_and1 (dt_cmp (op_in' (by exact room65 dx.rm)) NoX.inn (de_v (pv 6)) (de_v (pv 2)) (by rfl))))))) (fun s2 H2 C2 cl2 fp2 => (de_v (pv 6)))) da_nil)) de_int (nomark _)))) (fun s1 H1 C1 cl1 fp1 => (de_v (pv 5))))))
   (dss_cons (ds_set (i := 2) (by exact dx.nd) (by rfl) (by first | exact .inl (by rfl) | exact .inr (by rfl)) (dm_e (de_lc dx (di_seq (de_v (pv 2))) (own := [("v", 5)]) (blkOk_by (by kernel_rfl)) (by simp [Tg.slots, tgSlots]) (fun s3 H3 C3 cl3 fp3 => (dgv_nm (pg_name (i := 5) (by exact dx.nd) (by rfl) (by first | exact .inl (by rfl) | exact .inr (by rfl))))) (fun s3 H3 C3 cl3 fp3 => (dts_one (dt_cmp (op_notIn' (by exact room65 dx.rm)) NoX.notIn (de_v (pv 5)) (de_v (pv 4)) (by rfl)))) (fun s3 H3 C3 cl3 fp3 => (de_v (pv 5))))))
   (dss_one (ds_set (i := 3) (by exact dx.nd) (by rfl) (by first | exact .inl (by rfl) | exact .inr (by rfl)) (dm_e (de_cmp op_gt' NoX.i2 (de_callB call_len' NoX.len (by rfl) (by exact T.n_len) boot_len (da_cons (de_v (pv 4)) da_nil)) de_int (nomark _))))))))
  (dss_one (ds_ret (dm_v (pv 2)))))))
noncomputable def G_on_rounds : Sv :=
  (sSeq (sSet 2 (mE [0, 1] (eF F_rest_of (lC (eV 0) (lC (eV 1) lN)))))
  (sSeq (sSet 3 (mE [0, 1, 5, 4] (eF F_rest_of (lC (eV 0) (lC (eLc (lC (eV 1) lN) giSeq (.tp [(.nm 4), (.nm 5)]) [4, 5] cYes (eA gTup (lC (eV 5) (lC (eV 4) lN)))) lN)))))
  (sRet (mE [2, 6, 3, 6, 1, 1, 4, 6, 5, 6] (eLc (lC (eV 2) lN) giSeq (.nm 6) [6] (eAnd (eA gIn (lC (eV 6) (lC (eV 3) lN))) (eA gIn (lC (eV 6) (lC (eF F_reached (lC (eV 1) (lC (eLc (lC (eV 1) lN) giSeq (.tp [(.nm 4), (.nm 5)]) [4, 5] (eA gEq (lC (eV 4) (lC (eV 6) lN))) (eV 5)) lN))) lN)))) (eV 6))))))
noncomputable def F_on_rounds : List D → ER := runF 7 2 G_on_rounds
theorem sc_on_rounds : FnScope ["many", "arrows", "behind", "ahead", "a", "b", "v"] ["many", "arrows"] (defScope s_on_rounds) := ⟨rfl, rfl, rfl, by decide +kernel, rfl, by decide +kernel, by decide +kernel⟩
theorem ok_on_rounds (T : Txt P K mg) : OkD P w K mg base 3 "on_rounds" ["many", "arrows"] F_on_rounds := OkD.mk' T.d_on_rounds sc_on_rounds fun f cdv A outer s H E P0 fz hr => by
  have dx := dx_of (P := P) (w := w) (K := K) (mg := mg) (base := base) (outer := outer) (s := s) (H := H) (E := E) sc_on_rounds hr
  exact (dss_cons (ds_set (i := 2) (by exact dx.nd) (by rfl) (by first | exact .inl (by rfl) | exact .inr (by rfl)) (dm_e (de_callO dx (ok_rest_of T) (by decide) (by rfl) (da_cons (de_v (pv 0)) (da_cons (de_v (pv 1)) da_nil)))))
  (dss_cons (ds_set (i := 3) (by exact dx.nd) (by rfl) (by first | exact .inl (by rfl) | exact .inr (by rfl)) (dm_e (de_callO dx (ok_rest_of T) (by decide) (by rfl) (da_cons (de_v (pv 0)) (da_cons (de_lc dx (di_seq (de_v (pv 1))) (own := [("a", 4), ("b", 5)]) (blkOk_by (by kernel_rfl)) (by simp [Tg.slots, tgSlots]) (fun s1 H1 C1 cl1 fp1 => (dgv_tup (by exact dx.calm) (dgvs_cons (dgv_nm (pg_name (i := 4) (by exact dx.nd) (by rfl) (by first | exact .inl (by rfl) | exact .inr (by rfl)))) (dgvs_cons (dgv_nm (pg_name (i := 5) (by exact dx.nd) (by rfl) (by first | exact .inl (by rfl) | exact .inr (by rfl)))) dgvs_nil)))) (fun s1 H1 C1 cl1 fp1 => dts_nil) (fun s1 H1 C1 cl1 fp1 => (de_tup (da_cons (de_v (pv 5)) (da_cons (de_v (pv 4)) da_nil))))) da_nil)))))
  (dss_one (ds_ret (dm_e (de_lc dx (di_seq (de_v (pv 2))) (own := [("v", 6)]) (blkOk_by (by kernel_rfl)) (by simp [Tg.slots, tgSlots]) (fun s2 H2 C2 cl2 fp2 => (dgv_nm (pg_name (i := 6) (by exact dx.nd) (by rfl) (by first | exact .inl (by rfl) | exact .inr (by rfl))))) (fun s2 H2 C2 cl2 fp2 => (dts_one (PW.pt (dw_and (dt_cmp (op_in' (by exact room65 dx.rm)) NoX.inn (de_v (pv 6)) (de_v (pv 3)) (by rfl)) (dw_and1 (dt_cmp (op_in' (by exact room65 dx.rm)) NoX.inn (de_v (pv 6)) (de_callO (dx_blk dx s2 H2 _ _ fp2) (ok_reached T) (by decide) (by rfl) (da_cons (de_v (pv 1)) (da_cons (de_lc (dx_blk dx s2 H2 _ _ fp2) (di_seq (de_v (pv 1))) (own := [("a", 4), ("b", 5)]) (blkOk_by (by kernel_rfl)) (by simp [Tg.slots, tgSlots]) (fun s3 H3 C3 cl3 fp3 => (dgv_tup (by exact dx.calm) (dgvs_cons (dgv_nm (pg_name (i := 4) (by exact dx.nd) (by rfl) (by first | exact .inl (by rfl) | exact .inr (by rfl)))) (dgvs_cons (dgv_nm (pg_name (i := 5) (by exact dx.nd) (by rfl) (by first | exact .inl (by rfl) | exact .inr (by rfl)))) dgvs_nil)))) (fun s3 H3 C3 cl3 fp3 => (dts_one (dt_cmp (op_eq' (by exact dx.rm.units)) NoX.eq (de_v (pv 4)) (de_v (pv 6)) (nomark _)))) (fun s3 H3 C3 cl3 fp3 => (de_v (pv 5)))) da_nil))) (by rfl))))))) (fun s2 H2 C2 cl2 fp2 => (de_v (pv 6)))))))))
noncomputable def G_check_drawing : Sv :=
  (sSeq (sAsg (.tp [(.nm 1), (.nm 2), (.nm 3)]) (mV 0))
  (sSeq (sIf (eNot (eCh gLe gLe (eC (.int 1)) (eV 1) (eC (.int 12))))
   (sRaise "OutOfRange" (eV 1))
   sNx)
  (sSeq (sSet 4 (mE [1, 2] (eF F_first_bad (lC (eV 1) (lC (eV 2) (lC (eC (.bl false)) lN))))))
  (sSeq (sIf (eA gNotN (lC (eV 4) (lC (eC .non) lN)))
   (sRaise "BadArrow" (eV 4))
   sNx)
  (sSeq (sSet 4 (mE [1, 3] (eF F_first_bad (lC (eV 1) (lC (eV 3) (lC (eC (.bl true)) lN))))))
  (sSeq (sIf (eA gNotN (lC (eV 4) (lC (eC .non) lN)))
   (sRaise "BadTie" (eV 4))
   sNx)
  (sSeq (sSet 5 (mE [1, 2] (eF F_on_rounds (lC (eV 1) (lC (eV 2) lN)))))
  (sIf (eA gGt (lC (eA gLen (lC (eV 5) lN)) (lC (eC (.int 0)) lN)))
   (sRaise "Round" (eA gIx (lC (eV 5) (lC (eC (.int 0)) lN))))
   sNx))))))))
noncomputable def F_check_drawing : List D → ER := runF 6 1 G_check_drawing
theorem sc_check_drawing : FnScope ["drawing", "many", "arrows", "ties", "found", "rounds"] ["drawing"] (defScope s_check_drawing) := ⟨rfl, rfl, rfl, by decide +kernel, rfl, by decide +kernel, by decide +kernel⟩
theorem ok_check_drawing (T : Txt P K mg) : OkD P w K mg base 4 "check_drawing" ["drawing"] F_check_drawing := OkD.mk' T.d_check_drawing sc_check_drawing fun f cdv A outer s H E P0 fz hr => by
  have dx := dx_of (P := P) (w := w) (K := K) (mg := mg) (base := base) (outer := outer) (s := s) (H := H) (E := E) sc_check_drawing hr
  exact (dss_cons (ds_asg (dm_v (pv 0)) (dg_tup (by exact dx.calm) (dgs_cons (dg_nm (pg_name (i := 1) (by exact dx.nd) (by rfl) (by first | exact .inl (by rfl) | exact .inr (by rfl)))) (dgs_cons (dg_nm (pg_name (i := 2) (by exact dx.nd) (by rfl) (by first | exact .inl (by rfl) | exact .inr (by rfl)))) (dgs_cons (dg_nm (pg_name (i := 3) (by exact dx.nd) (by rfl) (by first | exact .inl (by rfl) | exact .inr (by rfl)))) dgs_nil)))))
  (dss_cons (ds_if (dt_not (dt_ch op_le' op_le' NoX.i2 de_int (de_v (pv 1)) (de_gint (by rfl) T.k_MOST_VARIABLES)))
   (dss_one (ds_raiseO dx rfl T.c_OutOfRange (de_v (pv 1)) (by rfl)))
   dss_nil)
  (dss_cons (ds_set (i := 4) (by exact dx.nd) (by rfl) (by first | exact .inl (by rfl) | exact .inr (by rfl)) (dm_e (de_callO dx (ok_first_bad T) (by decide) (by rfl) (da_cons (de_v (pv 1)) (da_cons (de_v (pv 2)) (da_cons de_bl da_nil))))))
  (dss_cons (ds_if (dt_cmp op_notN' NoX.notN (de_v (pv 4)) de_non (nomark _))
   (dss_one (ds_raiseO dx rfl T.c_BadArrow (de_v (pv 4)) (by rfl)))
   dss_nil)
  (dss_cons (ds_set (i := 4) (by exact dx.nd) (by rfl) (by first | exact .inl (by rfl) | exact .inr (by rfl)) (dm_e (de_callO dx (ok_first_bad T) (by decide) (by rfl) (da_cons (de_v (pv 1)) (da_cons (de_v (pv 3)) (da_cons de_bl da_nil))))))
  (dss_cons (ds_if (dt_cmp op_notN' NoX.notN (de_v (pv 4)) de_non (nomark _))
   (dss_one (ds_raiseO dx rfl T.c_BadTie (de_v (pv 4)) (by rfl)))
   dss_nil)
  (dss_cons (ds_set (i := 5) (by exact dx.nd) (by rfl) (by first | exact .inl (by rfl) | exact .inr (by rfl)) (dm_e (de_callO dx (ok_on_rounds T) (by decide) (by rfl) (da_cons (de_v (pv 1)) (da_cons (de_v (pv 2)) da_nil)))))
  (dss_one (ds_if (dt_cmp op_gt' NoX.i2 (de_callB call_len' NoX.len (by rfl) (by exact T.n_len) boot_len (da_cons (de_v (pv 5)) da_nil)) de_int (nomark _))
   (dss_one (ds_raiseO dx rfl T.c_Round (de_ix (de_v (pv 5)) de_int (by intro _ _; rfl)) (by rfl)))
   dss_nil)))))))))
noncomputable def G_l_raised : Sv :=
  (sSeq (sTryE (sDrop (mE [0] (eF F_check_drawing (lC (eA gTup (lC (eV 0) (lC (eA gLst lN) (lC (eA gLst lN) lN)))) lN)))) errNames)
  (sRet (mE [] (eC .non))))
noncomputable def F_l_raised : List D → ER := runF 2 1 G_l_raised
theorem sc_l_raised : FnScope ["many", "e"] ["many"] (defScope s_l_raised) := ⟨rfl, rfl, rfl, by decide +kernel, rfl, by decide +kernel, by decide +kernel⟩
theorem ok_l_raised (T : Txt P K mg) : OkD P w K mg base 5 "_law_raised" ["many"] F_l_raised := OkD.mk' T.d_l_raised sc_l_raised fun f cdv A outer s H E P0 fz hr => by
  have dx := dx_of (P := P) (w := w) (K := K) (mg := mg) (base := base) (outer := outer) (s := s) (H := H) (E := E) sc_l_raised hr
  exact (dss_cons (ds_tryE (i := 1) dx rfl T.e_all T.exm_WayError rfl rfl rfl (fun W1 pn1 xe1 tk1 hp1 => (dss_one (ds_drop (dm_e (de_callO (dx_tr dx tk1) (ok_check_drawing T) (by decide) (by rfl) (da_cons (de_tup (da_cons (de_v (pv 0)) (da_cons (de_lst da_nil) (da_cons (de_lst da_nil) da_nil)))) da_nil)))))) rfl rfl (names_way T.c_WayError rfl) (fun _ _ => pv 1))
  (dss_one (ds_ret (dm_e de_non))))
noncomputable def B_law_1 : Sv := (sSeq (sIf (eOr (eNot (eA (gIs errNames (fun _ => true)) (lC (eA gIx (lC (eV 3) (lC (eV 4) lN))) lN))) (eOr (eNot (eA (gIs errNames (fun _ => true)) (lC (eA gIx (lC (eV 3) (lC (eV 4) lN))) lN))) (eA gNe (lC (eA (gAt errNames) (lC (eA gIx (lC (eV 3) (lC (eV 4) lN))) lN)) (lC (eA gAdd (lC (eV 2) (lC (eV 4) lN))) lN)))))
    (sRet (mE [] (eC (.bl false))))
    sNx)
   (sSeq (sIf (eA gNe (lC (eF F_l_kinds (lC (eA gIx (lC (eV 3) (lC (eV 4) lN))) lN)) (lC (eLc (lC (eA gLen (lC (eV 3) lN)) lN) giRng1 (.nm 5) [5] cYes (eA gEq (lC (eV 5) (lC (eV 4) lN)))) lN)))
    (sRet (mE [] (eC (.bl false))))
    sNx)
   (sIf (eOr (eA (gIsI false) (lC (eA (gAt errNames) (lC (eA gIx (lC (eV 3) (lC (eV 4) lN))) lN)) lN)) (eNot (eA (gIsI true) (lC (eA (gAt errNames) (lC (eA gIx (lC (eV 3) (lC (eV 4) lN))) lN)) lN))))
    (sRet (mE [] (eC (.bl false))))
    sNx)))
noncomputable def G_law : Sv :=
  (sSeq (sSet 1 (mE [0] (eF F_l_draws (lC (eV 0) lN))))
  (sSeq (sSet 2 (mE [1] (eA gSub (lC (eF F_l_mix (lC (eV 1) (lC (eC (.int 0)) (lC (eC (.int 60000)) lN)))) (lC (eC (.int 30000)) lN)))))
  (sSeq (sSet 3 (mE [2] (eF F_l_made (lC (eV 2) lN))))
  (sSeq (sFor [3] (lC (eA gLen (lC (eV 3) lN)) lN) giRng1 (.nm 4)
   B_law_1)
  (sSeq (sSet 6 (mE [2] (eA (gMk "WayError") (lC (eV 2) lN))))
  (sSeq (sIf (eOr (eA gNe (lC (eA (gAt errNames) (lC (eV 6) lN)) (lC (eV 2) lN))) (eOr (eA gIn (lC (eC (.bl true)) (lC (eF F_l_kinds (lC (eV 6) lN)) lN))) (eNot (eA (gIs errNames (fun _ => true)) (lC (eV 6) lN)))))
   (sRet (mE [] (eC (.bl false))))
   sNx)
  (sSeq (sSet 7 (mE [1] (eA gIx (lC (eA gLst (lC (eC (.int 0)) (lC (eC (.int 13)) (lC (eA gNeg (lC (eC (.int 1)) lN)) (lC (eC (.int 99)) lN))))) (lC (eF F_l_mix (lC (eV 1) (lC (eC (.int 1)) (lC (eC (.int 4)) lN)))) lN)))))
  (sSeq (sSet 8 (mE [7] (eF F_l_raised (lC (eV 7) lN))))
  (sRet (mE [8, 8, 7, 8, 3, 5] (eAnd (eA gNotN (lC (eV 8) (lC (eC .non) lN))) (eAnd (eA gEq (lC (eA (gAt errNames) (lC (eV 8) lN)) (lC (eV 7) lN))) (eA gEq (lC (eF F_l_kinds (lC (eV 8) lN)) (lC (eLc (lC (eA gLen (lC (eV 3) lN)) lN) giRng1 (.nm 5) [5] cYes (eA gEq (lC (eV 5) (lC (eC (.int 0)) lN)))) lN)))))))))))))))
noncomputable def F_law : List D → ER := runF 9 1 G_law
theorem sc_law : FnScope ["script", "draws", "number", "made", "k", "t", "base", "many", "told"] ["script"] (defScope s_law) := ⟨rfl, rfl, rfl, by decide +kernel, rfl, by decide +kernel, by decide +kernel⟩
theorem ok_law (T : Txt P K mg) {f : Addr} {fd : FuncData} (Fn : Fun K "law" "law" s_law f fd) : FnG P w K mg base 6 f fd ["script"] (spD K w mg F_law) := fn_ofG Fn sc_law fun cdv A outer s H E P0 fz hr => by
  have dx := dx_of (P := P) (w := w) (K := K) (mg := mg) (base := base) (outer := outer) (s := s) (H := H) (E := E) sc_law hr
  exact (dss_cons (ds_set (i := 1) (by exact dx.nd) (by rfl) (by first | exact .inl (by rfl) | exact .inr (by rfl)) (dm_e (de_callO dx (ok_l_draws T) (by decide) (by rfl) (da_cons (de_v (pv 0)) da_nil))))
  (dss_cons (ds_set (i := 2) (by exact dx.nd) (by rfl) (by first | exact .inl (by rfl) | exact .inr (by rfl)) (dm_e (de_op2 op_sub' NoX.i2 (de_callO dx (ok_l_mix T) (by decide) (by rfl) (da_cons (de_v (pv 1)) (da_cons de_int (da_cons de_int da_nil)))) de_int)))
  (dss_cons (ds_set (i := 3) (by exact dx.nd) (by rfl) (by first | exact .inl (by rfl) | exact .inr (by rfl)) (dm_e (de_callO dx (ok_l_made T) (by decide) (by rfl) (da_cons (de_v (pv 2)) da_nil))))
  (dss_cons (ds_for (passes_of rfl) (by exact dx.calm) (di_rng1 (by rfl) (by exact T.n_range) (da_cons (de_callB call_len' NoX.len (by rfl) (by exact T.n_len) boot_len (da_cons (de_v (pv 3)) da_nil)) da_nil)) (dg_nm (pg_name (i := 4) (by exact dx.nd) (by rfl) (by first | exact .inl (by rfl) | exact .inr (by rfl))))
   (dss_cons (ds_if (PW.pt (dw_or (dt_not (dt_val (de_is T.e_all T.is_WayError (pe_glob (v := .ref _) (by rfl) (WayAt.gC T.c_WayError) rfl) (fun _ h => h) (by rfl) (by exact T.n_isinstance) (de_ix (de_v (pv 3)) (de_v (pv 4)) (by intro _ _; rfl))))) (dw_or (dt_not (dt_val (de_is T.e_all T.is_ValueError (pe_bltn (v := .ty "ValueError") (by rfl) (by exact T.n_ValueError) boot_ValueError rfl) (fun _ h => h) (by rfl) (by exact T.n_isinstance) (de_ix (de_v (pv 3)) (de_v (pv 4)) (by intro _ _; rfl))))) (dw_or1 (dt_cmp (op_ne' (by exact dx.rm.units)) NoX.ne (de_at T.e_all (de_ix (de_v (pv 3)) (de_v (pv 4)) (by intro _ _; rfl))) (de_op2 op_add' NoX.add (de_v (pv 2)) (de_v (pv 4))) (nomark _))))))
    (dss_one (ds_ret (dm_e de_bl)))
    dss_nil)
   (dss_cons (ds_if (dt_cmp (op_ne' (by exact dx.rm.units)) NoX.ne (de_callO dx (ok_l_kinds T) (by decide) (by rfl) (da_cons (de_ix (de_v (pv 3)) (de_v (pv 4)) (by intro _ _; rfl)) da_nil)) (de_lc dx (di_rng1 (by rfl) (by exact T.n_range) (da_cons (de_callB call_len' NoX.len (by rfl) (by exact T.n_len) boot_len (da_cons (de_v (pv 3)) da_nil)) da_nil)) (own := [("t", 5)]) (blkOk_by (by kernel_rfl)) (by simp [Tg.slots, tgSlots]) (fun s1 H1 C1 cl1 fp1 => (dgv_nm (pg_name (i := 5) (by exact dx.nd) (by rfl) (by first | exact .inl (by rfl) | exact .inr (by rfl))))) (fun s1 H1 C1 cl1 fp1 => dts_nil) (fun s1 H1 C1 cl1 fp1 => (de_cmp (op_eq' (by exact dx.rm.units)) NoX.eq (de_v (pv 5)) (de_v (pv 4)) (nomark _)))) (nomark _))
    (dss_one (ds_ret (dm_e de_bl)))
    dss_nil)
   (dss_one (ds_if (PW.pt (dw_or (dt_val (de_isI kit_int_bool (pe_bltn (v := .ty "bool") (by rfl) (by exact T.n_bool) boot_bool rfl) (.ty _) (by rfl) (by exact T.n_isinstance) (de_at T.e_all (de_ix (de_v (pv 3)) (de_v (pv 4)) (by intro _ _; rfl))))) (dw_or1 (dt_not (dt_val (de_isI kit_int_int (pe_bltn (v := .ty "int") (by rfl) (by exact T.n_int) boot_int rfl) (.ty _) (by rfl) (by exact T.n_isinstance) (de_at T.e_all (de_ix (de_v (pv 3)) (de_v (pv 4)) (by intro _ _; rfl)))))))))
    (dss_one (ds_ret (dm_e de_bl)))
    dss_nil)))))
  (dss_cons (ds_set (i := 6) (by exact dx.nd) (by rfl) (by first | exact .inl (by rfl) | exact .inr (by rfl)) (dm_e (de_mk dx T.m_WayError (da_cons (de_v (pv 2)) da_nil) (by rfl))))
  (dss_cons (ds_if (PW.pt (dw_or (dt_cmp (op_ne' (by exact dx.rm.units)) NoX.ne (de_at T.e_all (de_v (pv 6))) (de_v (pv 2)) (nomark _)) (dw_or (dt_cmp (op_in' (by exact room65 dx.rm)) NoX.inn de_bl (de_callO dx (ok_l_kinds T) (by decide) (by rfl) (da_cons (de_v (pv 6)) da_nil)) (by rfl)) (dw_or1 (dt_not (dt_val (de_is T.e_all T.is_ValueError (pe_bltn (v := .ty "ValueError") (by rfl) (by exact T.n_ValueError) boot_ValueError rfl) (fun _ h => h) (by rfl) (by exact T.n_isinstance) (de_v (pv 6)))))))))
   (dss_one (ds_ret (dm_e de_bl)))
   dss_nil)
  (dss_cons (ds_set (i := 7) (by exact dx.nd) (by rfl) (by first | exact .inl (by rfl) | exact .inr (by rfl)) (dm_e (de_ix (de_lst (da_cons de_int (da_cons de_int (da_cons (de_op1 un_neg' NoX.neg de_int) (da_cons de_int da_nil))))) (de_callO dx (ok_l_mix T) (by decide) (by rfl) (da_cons (de_v (pv 1)) (da_cons de_int (da_cons de_int da_nil)))) (by intro _ _; rfl))))
  (dss_cons (ds_set (i := 8) (by exact dx.nd) (by rfl) (by first | exact .inl (by rfl) | exact .inr (by rfl)) (dm_e (de_callO dx (ok_l_raised T) (by decide) (by rfl) (da_cons (de_v (pv 7)) da_nil))))
  (dss_one (ds_ret (dm_e (de_and (de_cmp op_notN' NoX.notN (de_v (pv 8)) de_non (nomark _)) (de_and (de_cmp (op_eq' (by exact dx.rm.units)) NoX.eq (de_at T.e_all (de_v (pv 8))) (de_v (pv 7)) (nomark _)) (de_one (de_cmp (op_eq' (by exact dx.rm.units)) NoX.eq (de_callO dx (ok_l_kinds T) (by decide) (by rfl) (da_cons (de_v (pv 8)) da_nil)) (de_lc dx (di_rng1 (by rfl) (by exact T.n_range) (da_cons (de_callB call_len' NoX.len (by rfl) (by exact T.n_len) boot_len (da_cons (de_v (pv 3)) da_nil)) da_nil)) (own := [("t", 5)]) (blkOk_by (by kernel_rfl)) (by simp [Tg.slots, tgSlots]) (fun s2 H2 C2 cl2 fp2 => (dgv_nm (pg_name (i := 5) (by exact dx.nd) (by rfl) (by first | exact .inl (by rfl) | exact .inr (by rfl))))) (fun s2 H2 C2 cl2 fp2 => dts_nil) (fun s2 H2 C2 cl2 fp2 => (de_cmp (op_eq' (by exact dx.rm.units)) NoX.eq (de_v (pv 5)) de_int (nomark _)))) (nomark _))))))))))))))))
end
end DL

set_option Elab.async false
set_option linter.all false
set_option maxRecDepth 100000
set_option maxHeartbeats 2000000
namespace DL
open PySem PySem.Spec L2
open PyProof.Rows hiding St
def Bd (ds : List Int) : Prop := ∀ d ∈ ds, 0 ≤ d ∧ d < 65536
theorem gAppend_val {ds : List Int} {d : Int} (h : ds.length < sizeLine) : gAppend (.lst true (ds.map D.int)) [.int d] = some (.lst true ((ds ++ [d]).map D.int), .non) := by
  unfold gAppend
  simp [h]
theorem draws_inner (xs : List D) : ∀ (r : Int) (ds : List Int) (e0 e2 e4 e5 : Option D), 0 ≤ r → Bd ds → ds.length + xs.length < sizeLine →
    ∃ r' ds' e4', forL (Tg.put (.nm 4)) B_l_draws_1 xs [e0, some (.lst true (ds.map D.int)), e2, some (.int r), e4, e5] = .nx [e0, some (.lst true (ds'.map D.int)), e2, some (.int r'), e4', e5] ∧ 0 ≤ r' ∧ Bd ds' ∧ ds'.length ≤ ds.length + xs.length := by
  induction xs with
  | nil => intro r ds e0 e2 e4 e5 h0 hb hl; exact ⟨r, ds, e4, rfl, h0, hb, by simp⟩
  | cons x xs ih =>
    intro r ds e0 e2 e4 e5 h0 hb hl
    simp only [List.length_cons] at hl
    by_cases hr : 0 < r
    · have m : gMod [.int r, .int 65536] = .val (.int (r.fmod 65536)) := gMod_val (by decide)
      have dv : gDiv [.int r, .int 65536] = .val (.int (r.fdiv 65536)) := gDiv_val (b := 17) (by decide) (by decide) (by decide) (by decide)
      have ap := gAppend_val (d := r.fmod 65536) (show ds.length < sizeLine by omega)
      have m0 := Int.fmod_nonneg_of_pos r (b := 65536) (by decide)
      have m1 := Int.fmod_lt_of_pos r (b := 65536) (by decide)
      obtain ⟨r', ds', e4', e, g0, gb, gl⟩ := ih (r.fdiv 65536) (ds ++ [r.fmod 65536]) e0 e2 (some x) e5 (by rw [Int.fdiv_eq_ediv_of_nonneg _ (by decide)]; omega) (by
        intro d hd
        rcases List.mem_append.mp hd with hd | hd
        · exact hb d hd
        · simp only [List.mem_singleton] at hd; subst hd; exact ⟨m0, m1⟩) (by simp only [List.length_append, List.length_singleton]; omega)
      refine ⟨r', ds', e4', ?_, g0, gb, by rw [List.length_append, List.length_singleton] at gl; rw [List.length_cons]; omega⟩
      rw [forL, ← e]
      simp only [Tg.put, B_l_draws_1]
      simp [sSeq, sIf, sNx, sDrop, sSet, sAsg, eA, lC, lN, eV, eC, D.fz, gGt_val, hr, mMeth, keysOf, getP, pathL, putP, mC, mE, mN, gInt, m, dv, D.clean, Tg.put, ap, -List.map_append]
    · obtain ⟨r', ds', e4', e, g0, gb, gl⟩ := ih r ds e0 e2 (some x) e5 h0 hb (by omega)
      refine ⟨r', ds', e4', ?_, g0, gb, by simp only [List.length_cons] at *; omega⟩
      rw [forL, ← e]
      simp only [Tg.put, B_l_draws_1]
      simp [sSeq, sIf, sNx, eA, lC, lN, eV, eC, D.fz, gGt_val, hr]
theorem fzs_rng (n : Nat) : fzs ((List.range n).map fun (k : Nat) => D.int (k : Int)) = (List.range n).map fun (k : Nat) => D.int (k : Int) := by
  rw [fzs_eq, List.map_map]; rfl
theorem rng60 : giRng1 [.int 60] = some ((List.range 60).map fun (k : Nat) => D.int (k : Int)) := rfl
theorem draws_outer (ns : List Int) (xs : List Nat) (hx : ∀ k ∈ xs, k < ns.length ∧ k < 1000) : ∀ (ds : List Int) (e2 e3 e4 e5 : Option D), Bd ds → ds.length + 60 * xs.length < sizeLine →
    ∃ ds' e2' e3' e4' e5', forL (Tg.put (.nm 2)) B_l_draws_2 (xs.map fun (k : Nat) => D.int (k : Int)) [some (.scr ns), some (.lst true (ds.map D.int)), e2, e3, e4, e5] = .nx [some (.scr ns), some (.lst true (ds'.map D.int)), e2', e3', e4', e5'] ∧ Bd ds' ∧ ds'.length ≤ ds.length + 60 * xs.length := by
  induction xs with
  | nil => intro ds e2 e3 e4 e5 hb hl; exact ⟨ds, e2, e3, e4, e5, rfl, hb, by simp⟩
  | cons k xs ih =>
    intro ds e2 e3 e4 e5 hb hl
    simp only [List.length_cons] at hl
    obtain ⟨k1, k2⟩ := hx k List.mem_cons_self
    have at0 : atI ns (k : Int) = some ns[k] := by simp [atI, ixN, k1]
    have ab : gAbs [.int ns[k]] = .val (.int ((ns[k].natAbs : Nat) : Int)) := by
      show ER.val (D.int (if ns[k] < 0 then -ns[k] else ns[k])) = _
      congr 2; split <;> omega
    have pw : gPow [.int 10, .int 18] = .val (.int 1000000000000000000) := by
      have : gPow [.int 10, .int 18] = .val (.int (10 ^ (18 : Int).toNat)) := gI2_val ⟨by decide, by decide, by decide⟩
      rw [this]
      have t : (10 : Int) ^ ((18 : Int).toNat) = 1000000000000000000 := by decide +kernel
      rw [t]
    have hxs : ∀ q ∈ xs, q < ns.length ∧ q < 1000 := fun q hq => hx q (List.mem_cons_of_mem _ hq)
    by_cases big : (1000000000000000000 : Int) ≤ (ns[k].natAbs : Int)
    · obtain ⟨r', ds1, e4', e, g0, gb, gl⟩ := draws_inner (((List.range 60).map fun (k : Nat) => D.int (k : Int))) (ns[k].natAbs : Int) ds (some (.scr ns)) (some (.int (k : Int))) e4 e5 (by omega) hb (by simp; omega)
      simp only [List.length_map, List.length_range] at gl
      obtain ⟨ds', e2', e3', f4, f5, f, fb, fl⟩ := ih hxs ds1 (some (.int (k : Int))) (some (.int r')) e4' e5 gb (by omega)
      refine ⟨ds', e2', e3', f4, f5, ?_, fb, by rw [List.length_cons]; omega⟩
      rw [List.map_cons, forL, ← f]
      have put4 : Tg.put (.nm 4) = fun x y => some (List.set y 4 (some x)) := by funext x y; simp [Tg.put]
      rw [put4] at e
      have ge : gGe [.int ((ns[k].natAbs : Nat) : Int), .int 1000000000000000000] = .val (.bl true) := by rw [gGe_val]; simp [big]
      unfold B_l_draws_2
      simp [sSeq, sIf, sFor, sSet, sAsg, eA, lC, lN, eV, eC, D.fz, mE, gIx_scr, at0, ab, pw, ge, D.clean, cleans, Tg.put, rng60, fzs_rng, put4, e, -List.map_append, frz]
    · have ge : gGe [.int ((ns[k].natAbs : Nat) : Int), .int 1000000000000000000] = .val (.bl false) := by rw [gGe_val]; simp [big]
      have m1 : gMul [.int ((ns[k].natAbs : Nat) : Int), .int 48271] = .val (.int (((ns[k].natAbs : Nat) : Int) * 48271)) := gMul_val (a := 60) (b := 16) (by simp; omega) (by decide) (by decide) (by decide) (by decide)
      have m2 : gMul [.int ((k : Int) + 1), .int 69621] = .val (.int (((k : Int) + 1) * 69621)) := gMul_val (a := 60) (b := 17) (by omega) (by decide) (by decide) (by decide) (by decide)
      generalize hx1 : ((ns[k].natAbs : Nat) : Int) * 48271 + ((k : Int) + 1) * 69621 = x1
      have m3 : gMod [.int x1, .int 2147483647] = .val (.int (x1.fmod 2147483647)) := gMod_val (by decide)
      have b0 := Int.fmod_nonneg_of_pos x1 (b := 2147483647) (by decide)
      have b1 := Int.fmod_lt_of_pos x1 (b := 2147483647) (by decide)
      generalize hx2 : x1.fmod 2147483647 = x2 at m3 b0 b1
      have m4 : gMul [.int x2, .int 16807] = .val (.int (x2 * 16807)) := gMul_val (a := 60) (b := 15) (by omega) (by decide) (by decide) (by decide) (by decide)
      have m5 : gMul [.int 11, .int (k : Int)] = .val (.int (11 * (k : Int))) := gMul_val (a := 4) (b := 60) (by decide) (by omega) (by decide) (by decide) (by decide)
      generalize hx3 : x2 * 16807 + 11 * (k : Int) + 5 = x3
      have m6 : gMod [.int x3, .int 2147483629] = .val (.int (x3.fmod 2147483629)) := gMod_val (by decide)
      generalize hx4 : x3.fmod 2147483629 = x4 at m6
      have m7 : gMod [.int x4, .int 65536] = .val (.int (x4.fmod 65536)) := gMod_val (by decide)
      have m8 : gDiv [.int x4, .int 65536] = .val (.int (x4.fdiv 65536)) := gDiv_val (b := 17) (by decide) (by decide) (by decide) (by decide)
      have m9 : gMod [.int (x4.fdiv 65536), .int 32768] = .val (.int ((x4.fdiv 65536).fmod 32768)) := gMod_val (by decide)
      have a1 := gAppend_val (d := x4.fmod 65536) (show ds.length < sizeLine by omega)
      have a2 := gAppend_val (ds := ds ++ [x4.fmod 65536]) (d := (x4.fdiv 65536).fmod 32768) (by rw [List.length_append, List.length_singleton]; omega)
      obtain ⟨ds', e2', e3', f4, f5, f, fb, fl⟩ := ih hxs (ds ++ [x4.fmod 65536] ++ [(x4.fdiv 65536).fmod 32768]) (some (.int (k : Int))) (some (.int (ns[k].natAbs : Int))) e4 (some (.int x4)) (by
        intro d hd
        simp only [List.mem_append, List.mem_singleton] at hd
        rcases hd with (hd | rfl) | rfl
        · exact hb d hd
        · exact ⟨Int.fmod_nonneg_of_pos _ (by decide), Int.fmod_lt_of_pos _ (by decide)⟩
        · have q1 := Int.fmod_nonneg_of_pos (x4.fdiv 65536) (b := 32768) (by decide)
          have q2 := Int.fmod_lt_of_pos (x4.fdiv 65536) (b := 32768) (by decide)
          exact ⟨q1, by omega⟩) (by simp only [List.length_append, List.length_singleton]; omega)
      refine ⟨ds', e2', e3', f4, f5, ?_, fb, by simp only [List.length_append, List.length_singleton] at fl; rw [List.length_cons]; omega⟩
      rw [List.map_cons, forL, ← f]
      unfold B_l_draws_2
      simp [sSeq, sIf, sFor, sSet, sAsg, sDrop, eA, lC, lN, eV, eC, D.fz, mE, mC, mN, gIx_scr, at0, ab, pw, ge, D.clean, cleans, Tg.put, gInt, gAdd, m1, m2, hx1, m3, m4, m5, hx3, m6, m7, m8, m9, mMeth, keysOf, getP, pathL, putP, a1, a2, -List.map_append]
theorem sFor_of {rd : List Nat} {l : Lv} {gi : List D → Option (List D)} {t : Tg} {b : Sv} {ρ : Env} {ds xs : List D} (h1 : l ρ = .vals ds) (h2 : gi ds = some xs) (h3 : cleans ds = true) : sFor rd l gi t b ρ = forL t.put b (fzs xs) ρ := by
  unfold sFor
  rw [h1]
  simp [h2, h3]
theorem hs3780 : 3780 < sizeLine := by rw [sizeLine_eq]; decide +kernel
theorem mn63 {n : Nat} (h : n ≤ 63) : gMin [.int 63, .int (n : Int)] = .val (.int (n : Int)) := by
  show ER.val (D.int (if (n : Int) < 63 then (n : Int) else 63)) = _
  congr 2
  split <;> omega
theorem rg63 {n : Nat} (h : n ≤ 63) : giRng1 [.int (n : Int)] = some ((List.range n).map fun (k : Nat) => D.int (k : Int)) := by
  simp only [giRng1]
  rw [if_pos ⟨by omega, by omega⟩, Int.toNat_natCast]
theorem dl0 {n : Nat} (h : n ≤ 63) : ([] : List Int).length + 60 * (List.range n).length < sizeLine := by
  rw [List.length_range, List.length_nil]
  exact Nat.lt_of_le_of_lt (by omega) hs3780
theorem draws_len {n m : Nat} (h : n ≤ 63) (l : m ≤ 0 + 60 * n) : m ≤ 3780 := by omega
theorem draws_mem {n : Nat} (h : n ≤ 63) : ∀ k ∈ List.range n, k < n ∧ k < 1000 := fun k hk => by have := List.mem_range.mp hk; omega
theorem ln_scr (ns : List Int) : gLen [.scr ns] = .val (.int (ns.length : Int)) := rfl
theorem ar_draws (ns : List Int) (h : ns.length ≤ 63) : (lC (eA gMin (lC (eC (.int 63)) (lC (eA gLen (lC (eV 0) lN)) lN))) lN) [some (.scr ns), some (.lst true []), none, none, none, none] = .vals [.int (ns.length : Int)] := by
  simp only [lC, eA, eC, eV, lN, List.getElem?_cons_zero, D.fz, ln_scr, mn63 h]
theorem st2_draws (ns : List Int) (h : ns.length ≤ 63) {r : SR} (e : forL (Tg.put (.nm 2)) B_l_draws_2 ((List.range ns.length).map fun (k : Nat) => D.int (k : Int)) [some (.scr ns), some (.lst true []), none, none, none, none] = r) :
    sFor [0] (lC (eA gMin (lC (eC (.int 63)) (lC (eA gLen (lC (eV 0) lN)) lN))) lN) giRng1 (.nm 2) B_l_draws_2 [some (.scr ns), some (.lst true []), none, none, none, none] = r := by
  rw [sFor_of (ar_draws ns h) (rg63 h) rfl, fzs_rng]
  exact e
theorem draws_val (ns : List Int) (h : ns.length ≤ 63) : ∃ ds, F_l_draws [.scr ns] = .val (.lst true (ds.map D.int)) ∧ Bd ds ∧ ds.length ≤ 3780 := by
  obtain ⟨ds, a2, a3, a4, a5, e, b, l⟩ := draws_outer ns (List.range ns.length) (draws_mem h) [] none none none none (fun d hd => nomatch hd) (dl0 h)
  simp only [List.length_range, List.length_nil] at l
  refine ⟨ds, ?_, b, draws_len h l⟩
  rw [List.map_nil] at e
  have st1 : sSet 1 (mE [] (eA gLst lN)) [some (.scr ns), none, none, none, none, none] = .nx [some (.scr ns), some (.lst true []), none, none, none, none] := by
    simp [sSet, sAsg, mE, eA, lN, gLst, D.clean, cleans, Tg.put]
  have st2 := st2_draws ns h e
  unfold F_l_draws G_l_draws
  simp only [runF, List.length_cons, List.length_nil, List.map_cons, List.map_nil, if_true, Nat.zero_add, Nat.reduceAdd, Nat.reduceSub, List.reduceReplicate, List.cons_append, List.nil_append]
  rw [sSeq_nx st1, sSeq_nx st2]
  simp [sRet, mV]
theorem atI_some {xs : List Int} {i : Int} (h0 : 0 ≤ i) (h1 : i < xs.length) : ∃ d, atI xs i = some d ∧ d ∈ xs := by
  have hl : i.toNat < xs.length := by omega
  exact ⟨xs[i.toNat], by simp [atI, ixN, h0, h1], List.getElem_mem hl⟩
theorem mix_val (ds : List Int) (hb : Bd ds) (k m : Int) (hk : 0 ≤ k ∧ k < 100) (hm : 0 < m) : ∃ r, F_l_mix [.lst false (ds.map D.int), .int k, .int m] = .val (.int r) ∧ 0 ≤ r ∧ r < m := by
  have fzd : fzs (ds.map D.int) = ds.map D.int := by rw [fzs_eq, List.map_map]; rfl
  have key : ∃ v : Int, 0 ≤ v ∧ v < 65536 ∧ ∀ Q : Sv, sSeq (sIf (eA gGt (lC (eA gLen (lC (eV 0) lN)) (lC (eC (.int 0)) lN)))
   (sSet 3 (mE [0, 1, 0] (eA gIx (lC (eV 0) (lC (eA gMod (lC (eA gInt (lC (eV 1) lN)) (lC (eA gLen (lC (eV 0) lN)) lN))) lN)))))
   sNx) Q [some (.lst false (ds.map D.int)), some (.int k), some (.int m), some (.int 0)] = Q [some (.lst false (ds.map D.int)), some (.int k), some (.int m), some (.int v)] := by
    by_cases h0 : ds.length = 0
    · refine ⟨0, by decide, by decide, fun Q => ?_⟩
      simp [sSeq, sIf, sNx, eA, lC, lN, eV, eC, D.fz, fzd, gLen, gGt_val, h0]
    · have g : gMod [.int k, .int (ds.length : Int)] = .val (.int (k.fmod ds.length)) := gMod_val (by omega)
      obtain ⟨d, e, hd⟩ := atI_some (xs := ds) (i := k.fmod ds.length) (Int.fmod_nonneg_of_pos _ (by omega)) (Int.fmod_lt_of_pos _ (by omega))
      obtain ⟨d0, d1⟩ := hb d hd
      refine ⟨d, d0, d1, fun Q => ?_⟩
      have hp : 0 < ds.length := by omega
      simp [sSeq, sIf, sNx, sSet, sAsg, mE, eA, lC, lN, eV, eC, D.fz, fzd, gLen, gGt_val, hp, gInt, g, gIx_lst, atI_map, e, D.clean, Tg.put]
  obtain ⟨v, v0, v1, kq⟩ := key
  have m1 : gMod [.int v, .int m] = .val (.int (v.fmod m)) := gMod_val (by omega)
  have m2 : gMul [.int v, .int 7919] = .val (.int (v * 7919)) := gMul_val (a := 17) (b := 13) (by omega) (by decide) (by decide) (by decide) (by decide)
  have m3 : gMul [.int k, .int 104729] = .val (.int (k * 104729)) := gMul_val (a := 17) (b := 17) (by omega) (by decide) (by decide) (by decide) (by decide)
  generalize hx : v * 7919 + k * 104729 = x
  have m4 : gDiv [.int x, .int 3] = .val (.int (x.fdiv 3)) := gDiv_val (b := 2) (by decide) (by decide) (by decide) (by decide)
  have m5 : gMod [.int (x.fdiv 3), .int m] = .val (.int ((x.fdiv 3).fmod m)) := gMod_val (by omega)
  unfold F_l_mix G_l_mix
  have st : sSet 3 (mE [] (eC (.int 0))) [some (.lst false (ds.map D.int)), some (.int k), some (.int m), none] = .nx [some (.lst false (ds.map D.int)), some (.int k), some (.int m), some (.int 0)] := by
    simp [sSet, sAsg, mE, eC, D.clean, Tg.put]
  by_cases hl : k < ds.length
  · refine ⟨v.fmod m, ?_, Int.fmod_nonneg_of_pos _ hm, Int.fmod_lt_of_pos _ hm⟩
    simp only [runF, List.length_cons, List.length_nil, List.map_cons, List.map_nil, if_true, Nat.zero_add, Nat.reduceAdd, Nat.reduceSub, List.replicate_one, List.cons_append, List.nil_append]
    rw [sSeq_nx st, kq]
    simp [sSeq, sIf, sNx, sRet, mE, eA, lC, lN, eV, eC, D.fz, fzd, gLen, gLt_val, hl, gInt, m1]
  · refine ⟨(x.fdiv 3).fmod m, ?_, Int.fmod_nonneg_of_pos _ hm, Int.fmod_lt_of_pos _ hm⟩
    simp only [runF, List.length_cons, List.length_nil, List.map_cons, List.map_nil, if_true, Nat.zero_add, Nat.reduceAdd, Nat.reduceSub, List.replicate_one, List.cons_append, List.nil_append]
    rw [sSeq_nx st, kq]
    simp [sSeq, sIf, sNx, sRet, mE, eA, lC, lN, eV, eC, D.fz, fzd, gLen, gLt_val, hl, gInt, m2, m3, gAdd, hx, m4, m5]
theorem fzs_ints (ts : List Int) : fzs (ts.map D.int) = ts.map D.int := by rw [fzs_eq, List.map_map]; rfl
theorem cleans_ints (ts : List Int) : cleans (ts.map D.int) = true := by
  induction ts with
  | nil => rfl
  | cons x xs ih => simp only [List.map_cons, cleans, D.clean, ih, Bool.and_self]
end DL

set_option Elab.async false
set_option linter.all false
set_option maxRecDepth 100000
set_option maxHeartbeats 2000000
namespace DL
open PySem PySem.Spec L2
open PyProof.Rows hiding St
def KN : List Str := ["OutOfRange", "TooMany", "TooLarge", "WrongSize", "NoVariable", "NotASet", "BadArrow", "BadTie", "Round", "BadValues", "BadUnseen", "BadTable", "BadDeed", "BadWeight", "Overlap", "Ties", "BadAnswer", "BadStep", "NothingToUndo", "NotAChild", "BadKinds", "BadFinding", "BadRecord", "Unfit", "BadCauses", "BadLaw", "BadMarks", "BadShares"]
def madeL (n : Int) : List D := KN.zipIdx.map fun p => .err p.1 (n + (p.2 : Int))
theorem kn_sub : ∀ c ∈ KN, c ∈ errNames := by decide +kernel
theorem w_in : ("WayError" : Str) ∈ errNames := by decide +kernel
theorem gIs_val {c : Str} {n : Int} {r : Str → Bool} (h : c ∈ errNames) : gIs errNames r [.err c n] = .val (.bl (r c)) := if_pos h
theorem gAt_val {c : Str} {n : Int} (h : c ∈ errNames) : gAt errNames [.err c n] = .val (.int n) := if_pos h
theorem fz_err {c : Str} {n : Int} : (D.err c n).fz = .err c n := by simp [D.fz]
theorem kinds_val {c : Str} {n : Int} (h : c ∈ errNames) : F_l_kinds [.err c n] = .val (.lst true ((KN.map fun T => decide (c = T)).map D.bl)) := by
  have g := fun r => gIs_val (n := n) (r := r) h
  unfold F_l_kinds G_l_kinds
  simp only [runF, List.length_cons, List.length_nil, List.map_cons, List.map_nil, if_true, Nat.zero_add, Nat.sub_self, List.replicate_zero, List.append_nil, sRet, mE, eA, lC, lN, eV, List.getElem?_cons_zero, fz_err, g, gLst]
  rw [if_pos (le_size (by decide))]
  rfl
theorem made_val (n : Int) : F_l_made [.int n] = .val (.lst true (madeL n)) := by
  unfold F_l_made G_l_made
  simp only [runF, List.length_cons, List.length_nil, List.map_cons, List.map_nil, if_true, Nat.zero_add, Nat.sub_self, List.replicate_zero, List.append_nil, sRet, mE, eA, lC, lN, eV, eC, List.getElem?_cons_zero, D.fz, gAdd, gMk, gLst]
  rw [if_pos (le_size (by decide))]
  rfl
theorem fzs_made (n : Int) : fzs (madeL n) = madeL n := by
  rw [fzs_eq]; unfold madeL; rw [List.map_map]
  refine List.map_congr_left fun p _ => fz_err
theorem len_made (n : Int) : (madeL n).length = 28 := by unfold madeL; rw [List.length_map, List.length_zipIdx]; rfl
theorem at_made (n : Int) (k : Nat) (h : k < 28) : atI (madeL n) (k : Int) = some (.err (KN[k]'h) (n + (k : Int))) := by
  have h2 : k < (madeL n).length := by rw [len_made]; exact h
  have e : (madeL n)[k]? = some (.err (KN[k]'h) (n + (k : Int))) := by
    unfold madeL
    rw [List.getElem?_map, List.getElem?_zipIdx, List.getElem?_eq_getElem h]
    simp
  unfold atI
  have x : ixN (madeL n).length (k : Int) = some k := by simp [ixN, h2]
  rw [x]
  exact e
theorem toPys_bl (bs : List Bool) : toPys (bs.map D.bl) = some (bs.map PyData.bool) := by
  induction bs with
  | nil => simp [toPys]
  | cons b bs ih => simp [toPys, toPy, ih]
theorem lay_bl (bs : List Bool) : PyData.canLayAll0 (bs.map PyData.bool) = true := by
  induction bs with
  | nil => simp [PyData.canLayAll0]
  | cons b bs ih => simp [PyData.canLayAll0, PyData.canLay0, ih]
theorem dp_bl (bs : List Bool) : PyData.depthAll (bs.map PyData.bool) = 0 := by
  induction bs with
  | nil => simp [PyData.depthAll]
  | cons b bs ih => simp [PyData.depthAll, PyData.depth, ih]
theorem okD_bls {o : Bool} (bs : List Bool) : okD (.lst o (bs.map D.bl)) = true := by
  unfold okD
  simp only [toPy, toPys_bl, Option.map_some]
  unfold SeqAt.shaped
  simp [PyData.canLay0, lay_bl, PyData.depth, dp_bl]
theorem eqv_bls (bs : List Bool) : PyData.eqvAll (bs.map PyData.bool) (bs.map PyData.bool) = true := by
  induction bs with
  | nil => simp [PyData.eqvAll]
  | cons b bs ih => simp [PyData.eqvAll, PyData.eqv, ih]
theorem dEq_bls {o o' : Bool} (bs : List Bool) : dEq (.lst o (bs.map D.bl)) (.lst o' (bs.map D.bl)) = true := by
  unfold dEq
  simp only [toPy, toPys_bl, Option.map_some]
  simp [PyData.eqv, eqv_bls]
theorem gNe_bls {o o' : Bool} (bs : List Bool) : gNe [.lst o (bs.map D.bl), .lst o' (bs.map D.bl)] = .val (.bl false) := by
  show (if (okD (.lst o (bs.map D.bl)) && okD (.lst o' (bs.map D.bl))) = true then ER.val (.bl (!dEq (.lst o (bs.map D.bl)) (.lst o' (bs.map D.bl)))) else .stuck) = _
  rw [okD_bls, okD_bls, dEq_bls]; rfl
theorem gEq_bls {o o' : Bool} (bs : List Bool) : gEq [.lst o (bs.map D.bl), .lst o' (bs.map D.bl)] = .val (.bl true) := by
  show (if (okD (.lst o (bs.map D.bl)) && okD (.lst o' (bs.map D.bl))) = true then ER.val (.bl (dEq (.lst o (bs.map D.bl)) (.lst o' (bs.map D.bl)))) else .stuck) = _
  rw [okD_bls, okD_bls, dEq_bls]; rfl
theorem in_bls {o : Bool} (bs : List Bool) (h : ∀ b ∈ bs, b = false) : gIn [.bl true, .lst o (bs.map D.bl)] = .val (.bl false) := by
  have e : inD (.bl true) (bs.map D.bl) = false := by
    unfold inD
    simp only [toPy, toPys_bl]
    rw [List.any_eq_false]
    intro p hp
    obtain ⟨b, hb, rfl⟩ := List.mem_map.mp hp
    rw [h b hb]
    simp [PyData.eqv]
  show (if (okD (.bl true) && okD (.lst o (bs.map D.bl))) = true then ER.val (.bl (inD (.bl true) (bs.map D.bl))) else .stuck) = _
  rw [okD_bls, e]
  simp [okD, toPy, SeqAt.shaped, PyData.canLay0, PyData.depth]
theorem kinds_k : ∀ k : Fin 28, (KN.map fun T => decide ((KN[k.val]'k.isLt) = T)) = (List.range 28).map fun t => decide (t = k.val) := by decide +kernel
theorem eqs_val {ρ : Env} (k : Nat) (h4 : ∀ t : Nat, (eA gEq (lC (eV 5) (lC (eV 4) lN))) (ρ.set 5 (some (.int (t : Int)))) = .val (.bl (decide (t = k)))) :
    ∀ xs : List Nat, lcL (.nm 5) cYes (eA gEq (lC (eV 5) (lC (eV 4) lN))) ρ (xs.map fun (t : Nat) => D.int (t : Int)) = .vals ((xs.map fun t => decide (t = k)).map D.bl)
  | [] => by simp [lcL]
  | t :: xs => by
    rw [List.map_cons, lcL]
    simp only [Tg.put, cYes, h4 t, eqs_val k h4 xs, List.map_cons]
theorem rng28 : giRng1 [.int 28] = some ((List.range 28).map fun (t : Nat) => D.int (t : Int)) := rfl
theorem b1_step (m n : Int) (k : Nat) (hk : k < 28) {e0 e1 e5 e6 e7 e8 : Option D} {s : Bool} :
    B_law_1 [e0, e1, some (.int n), some (.lst s (madeL n)), some (.int (k : Int)), e5, e6, e7, e8] = .nx [e0, e1, some (.int n), some (.lst s (madeL n)), some (.int (k : Int)), e5, e6, e7, e8] := by
  have hc := kn_sub _ (List.getElem_mem hk)
  have am := at_made n k hk
  generalize hC : KN[k]'hk = c at hc am
  have ix : gIx [.lst false (madeL n), .int (k : Int)] = .val (.err c (n + (k : Int))) := by rw [gIx_lst, am]
  have g1 := fun r => gIs_val (n := n + (k : Int)) (r := r) hc
  have g2 := gAt_val (n := n + (k : Int)) hc
  have kk := kinds_val (n := n + (k : Int)) hc
  have ek := kinds_k ⟨k, hk⟩
  simp only [hC] at ek
  rw [ek] at kk
  have lc : lcL (.nm 5) cYes (eA gEq (lC (eV 5) (lC (eV 4) lN))) [e0, e1, some (.int n), some (.lst s (madeL n)), some (.int (k : Int)), none, e6, e7, e8] ((List.range 28).map fun (t : Nat) => D.int (t : Int)) = .vals (((List.range 28).map fun t => decide (t = k)).map D.bl) :=
    eqs_val k (fun t => by
      simp only [eA, lC, lN, eV, List.set_cons_succ, List.set_cons_zero, List.getElem?_cons_succ, List.getElem?_cons_zero, D.fz, gEq_int]
      congr 2
      exact decide_eq_decide.mpr ⟨fun z => by omega, fun z => by omega⟩) _
  have ln : gLen [.lst false (madeL n)] = .val (.int 28) := by
    show ER.val (.int ((madeL n).length : Int)) = _
    rw [len_made]; rfl
  have fzr : fzs ((List.range 28).map fun (t : Nat) => D.int (t : Int)) = (List.range 28).map fun (t : Nat) => D.int (t : Int) := fzs_rng 28
  have le : eLc (lC (eA gLen (lC (eV 3) lN)) lN) giRng1 (.nm 5) [5] cYes (eA gEq (lC (eV 5) (lC (eV 4) lN))) [e0, e1, some (.int n), some (.lst s (madeL n)), some (.int (k : Int)), e5, e6, e7, e8] = .val (.lst true (((List.range 28).map fun t => decide (t = k)).map D.bl)) := by
    have ar : (lC (eA gLen (lC (eV 3) lN)) lN) [e0, e1, some (.int n), some (.lst s (madeL n)), some (.int (k : Int)), e5, e6, e7, e8] = .vals [.int 28] := by
      simp only [lC, eA, eV, lN, List.getElem?_cons_succ, List.getElem?_cons_zero, D.fz, fzs_made, ln]
    unfold eLc
    rw [ar]
    simp only [rng28, fzr, wipeE, List.set_cons_succ, List.set_cons_zero, lc, List.length_map, List.length_range]
    rw [if_pos (le_size (by decide))]
  generalize hE : eLc (lC (eA gLen (lC (eV 3) lN)) lN) giRng1 (.nm 5) [5] cYes (eA gEq (lC (eV 5) (lC (eV 4) lN))) = E at le
  unfold B_law_1
  rw [hE]
  generalize hB : ((List.range 28).map fun t => decide (t = k)) = bs at kk le
  simp [sSeq, sIf, sNx, eOr, eNot, eA, eF, lC, lN, eV, eC, D.fz, fzs, fz_err, fzs_made, ix, g1, g2, kk, le, gNe_bls, gAdd, gNe_int, gIsI]
end DL

set_option Elab.async false
set_option linter.all false
set_option maxRecDepth 100000
set_option maxHeartbeats 2000000
namespace DL
open PySem PySem.Spec L2
open PyProof.Rows hiding St
theorem b1_loop (n : Int) {e0 e1 e5 e6 e7 e8 : Option D} {s : Bool} : ∀ (xs : List Nat) (hx : ∀ k ∈ xs, k < 28) (e4 : Option D), ∃ e4', forL (Tg.put (.nm 4)) B_law_1 (xs.map fun (k : Nat) => D.int (k : Int))
    [e0, e1, some (.int n), some (.lst s (madeL n)), e4, e5, e6, e7, e8] = .nx [e0, e1, some (.int n), some (.lst s (madeL n)), e4', e5, e6, e7, e8]
  | [], _, e4 => ⟨e4, rfl⟩
  | k :: xs, hx, e4 => by
    obtain ⟨f, h⟩ := b1_loop n (e0 := e0) (e1 := e1) (e5 := e5) (e6 := e6) (e7 := e7) (e8 := e8) (s := s) xs (fun q hq => hx q (List.mem_cons_of_mem _ hq)) (some (.int (k : Int)))
    refine ⟨f, ?_⟩
    rw [List.map_cons, forL, ← h]
    simp only [Tg.put, List.length_cons, List.length_nil, Nat.zero_add, Nat.reduceAdd, Nat.reduceLT, if_true, List.set_cons_succ, List.set_cons_zero]
    rw [b1_step 0 n k (hx k List.mem_cons_self)]
theorem out_in : ("OutOfRange" : Str) ∈ errNames := by decide +kernel
theorem raised_val (m : Int) (h : m = 0 ∨ m = 13 ∨ m = -1 ∨ m = 99) : F_l_raised [.int m] = .val (.err "OutOfRange" m) := by
  have c : F_check_drawing [.tup [.int m, .lst false [], .lst false []]] = .exc "OutOfRange" m := by
    unfold F_check_drawing G_check_drawing
    rcases h with rfl | rfl | rfl | rfl <;> simp [runF, sSeq, sIf, sRaise, sAsg, mV, mE, eNot, eCh, eC, eV, gLe_val, Tg.put, tgPuts, D.fz]
  unfold F_l_raised G_l_raised sTryE
  simp [runF, sSeq, sDrop, sRet, mE, eF, eA, lC, lN, eV, eC, gTup, gLst, le_size, D.fz, fzs, c, out_in]
theorem kinds_w : ∀ b ∈ (KN.map fun T => decide (("WayError" : Str) = T)), b = false := by decide +kernel
theorem kinds_o : (KN.map fun T => decide (("OutOfRange" : Str) = T)) = (List.range 28).map fun t => decide (t = 0) := by decide +kernel
theorem eqs0_val {ρ : Env} : ∀ xs : List Nat, (∀ t : Nat, (eA gEq (lC (eV 5) (lC (eC (.int 0)) lN))) (ρ.set 5 (some (.int (t : Int)))) = .val (.bl (decide (t = 0)))) →
    lcL (.nm 5) cYes (eA gEq (lC (eV 5) (lC (eC (.int 0)) lN))) ρ (xs.map fun (t : Nat) => D.int (t : Int)) = .vals ((xs.map fun t => decide (t = 0)).map D.bl)
  | [], _ => by simp [lcL]
  | t :: xs, h => by
    rw [List.map_cons, lcL]
    simp only [Tg.put, cYes, h t, eqs0_val xs h, List.map_cons]
theorem F_law_true (ns : List Int) (h : ns.length ≤ 63) : F_law [.scr ns] = .val (.bl true) := by
  obtain ⟨ds, e, hb, hl⟩ := draws_val ns h
  obtain ⟨q, m0, q0, q1⟩ := mix_val ds hb 0 60000 (by decide) (by decide)
  obtain ⟨q', m1, q2, q3⟩ := mix_val ds hb 1 4 (by decide) (by decide)
  obtain ⟨m, hm, am⟩ : ∃ m : Int, (m = 0 ∨ m = 13 ∨ m = -1 ∨ m = 99) ∧ atI [D.int 0, .int 13, .int (-1), .int 99] q' = some (.int m) := by
    have : q' = 0 ∨ q' = 1 ∨ q' = 2 ∨ q' = 3 := by omega
    rcases this with rfl | rfl | rfl | rfl
    · exact ⟨0, by decide, rfl⟩
    · exact ⟨13, by decide, rfl⟩
    · exact ⟨-1, by decide, rfl⟩
    · exact ⟨99, by decide, rfl⟩
  have rv := raised_val m hm
  generalize hn : q - 30000 = n
  have mv := made_val n
  have fm := fzs_made n
  have lm := len_made n
  obtain ⟨e4, lp⟩ := b1_loop n (e0 := some (.scr ns)) (e1 := some (.lst true (ds.map D.int))) (e5 := none) (e6 := none) (e7 := none) (e8 := none) (s := true) (List.range 28) (fun k hk => List.mem_range.mp hk) none
  have ix : gIx [.lst true [.int 0, .int 13, .int (-1), .int 99], .int q'] = .val (.int m) := by rw [gIx_lst, am]
  have kw := kinds_val (n := n) w_in
  have kn := in_bls (o := true) _ kinds_w
  have ko := kinds_val (n := m) out_in
  rw [kinds_o] at ko
  have gw := fun r => gIs_val (n := n) (r := r) w_in
  have aw := gAt_val (n := n) w_in
  have ao := gAt_val (n := m) out_in
  have st1 : sSet 1 (mE [0] (eF F_l_draws (lC (eV 0) lN))) [some (.scr ns), none, none, none, none, none, none, none, none] = .nx [some (.scr ns), some (.lst true (ds.map D.int)), none, none, none, none, none, none, none] := by
    simp [sSet, sAsg, mE, eF, eA, lC, lN, eV, D.fz, fzs, e, D.clean, cleans_ints, Tg.put]
  have st2 : sSet 2 (mE [1] (eA gSub (lC (eF F_l_mix (lC (eV 1) (lC (eC (.int 0)) (lC (eC (.int 60000)) lN)))) (lC (eC (.int 30000)) lN)))) [some (.scr ns), some (.lst true (ds.map D.int)), none, none, none, none, none, none, none] = .nx [some (.scr ns), some (.lst true (ds.map D.int)), some (.int n), none, none, none, none, none, none] := by
    simp [sSet, sAsg, mE, eF, eA, lC, lN, eV, eC, D.fz, fzs, fzs_ints, m0, gSub_val, hn, D.clean, Tg.put]
  have cm : cleans (madeL n) = false := by unfold madeL KN; simp [cleans, D.clean]
  have st3 : sSet 3 (mE [2] (eF F_l_made (lC (eV 2) lN))) [some (.scr ns), some (.lst true (ds.map D.int)), some (.int n), none, none, none, none, none, none] = .nx [some (.scr ns), some (.lst true (ds.map D.int)), some (.int n), some (.lst true (madeL n)), none, none, none, none, none] := by
    simp [sSet, sAsg, mE, eF, eA, lC, lN, eV, D.fz, fzs, mv, D.clean, cm, frz, fzAt, Tg.put]
  have ln : ∀ s, gLen [.lst s (madeL n)] = .val (.int 28) := fun s => by
    show ER.val (.int ((madeL n).length : Int)) = _
    rw [len_made]; rfl
  have ar : (lC (eA gLen (lC (eV 3) lN)) lN) [some (.scr ns), some (.lst true (ds.map D.int)), some (.int n), some (.lst true (madeL n)), none, none, none, none, none] = .vals [.int 28] := by
    simp [lC, eA, eV, lN, D.fz, fm, ln]
  have st4 : sFor [3] (lC (eA gLen (lC (eV 3) lN)) lN) giRng1 (.nm 4) B_law_1 [some (.scr ns), some (.lst true (ds.map D.int)), some (.int n), some (.lst true (madeL n)), none, none, none, none, none] = .nx [some (.scr ns), some (.lst true (ds.map D.int)), some (.int n), some (.lst true (madeL n)), e4, none, none, none, none] := by
    rw [sFor_of ar rng28 rfl, fzs_rng]
    exact lp
  have st5 : sSet 6 (mE [2] (eA (gMk "WayError") (lC (eV 2) lN))) [some (.scr ns), some (.lst true (ds.map D.int)), some (.int n), some (.lst true (madeL n)), e4, none, none, none, none] = .nx [some (.scr ns), some (.lst true (ds.map D.int)), some (.int n), some (.lst true (madeL n)), e4, none, some (.err "WayError" n), none, none] := by
    simp [sSet, sAsg, mE, eA, lC, lN, eV, D.fz, gMk, D.clean, frz, fzAt, Tg.put]
  have lc : lcL (.nm 5) cYes (eA gEq (lC (eV 5) (lC (eC (.int 0)) lN))) [some (.scr ns), some (.lst true (ds.map D.int)), some (.int n), some (.lst true (madeL n)), e4, none, some (.err "WayError" n), some (.int m), some (.err "OutOfRange" m)] ((List.range 28).map fun (t : Nat) => D.int (t : Int)) = .vals (((List.range 28).map fun t => decide (t = 0)).map D.bl) :=
    eqs0_val _ fun t => by
      have g : gEq [.int (t : Int), .int 0] = .val (.bl (decide (t = 0))) := by
        rw [gEq_int]
        have : decide ((t : Int) = 0) = decide (t = 0) := decide_eq_decide.mpr ⟨fun z => by omega, fun z => by omega⟩
        rw [this]
      simp only [eA, lC, lN, eV, eC, List.set_cons_succ, List.set_cons_zero, List.getElem?_cons_succ, List.getElem?_cons_zero, D.fz, g]
  have le : eLc (lC (eA gLen (lC (eV 3) lN)) lN) giRng1 (.nm 5) [5] cYes (eA gEq (lC (eV 5) (lC (eC (.int 0)) lN))) [some (.scr ns), some (.lst true (ds.map D.int)), some (.int n), some (.lst true (madeL n)), e4, none, some (.err "WayError" n), some (.int m), some (.err "OutOfRange" m)] = .val (.lst true (((List.range 28).map fun t => decide (t = 0)).map D.bl)) := by
    have ar2 : (lC (eA gLen (lC (eV 3) lN)) lN) [some (.scr ns), some (.lst true (ds.map D.int)), some (.int n), some (.lst true (madeL n)), e4, none, some (.err "WayError" n), some (.int m), some (.err "OutOfRange" m)] = .vals [.int 28] := by
      simp [lC, eA, eV, lN, D.fz, fm, ln]
    unfold eLc
    rw [ar2]
    simp only [rng28, fzs_rng, wipeE, List.set_cons_succ, List.set_cons_zero, lc, List.length_map, List.length_range]
    rw [if_pos (le_size (by decide))]
  generalize hE : eLc (lC (eA gLen (lC (eV 3) lN)) lN) giRng1 (.nm 5) [5] cYes (eA gEq (lC (eV 5) (lC (eC (.int 0)) lN))) = E at le
  generalize hB : ((List.range 28).map fun t => decide (t = 0)) = bs at ko le
  unfold F_law G_law
  rw [hE]
  simp only [runF, List.length_cons, List.length_nil, List.map_cons, List.map_nil, if_true, Nat.zero_add, Nat.reduceAdd, Nat.reduceSub, List.reduceReplicate, List.cons_append, List.nil_append]
  rw [sSeq_nx st1, sSeq_nx st2, sSeq_nx st3, sSeq_nx st4, sSeq_nx st5]
  simp [sSeq, sIf, sNx, sSet, sAsg, sRet, mE, eOr, eAnd, eNot, eA, eF, lC, lN, eV, eC, D.fz, fzs, fzs_ints, fz_err, fm, gNe_int, gEq_int, aw, ao, kw, kn, gw, ko, le, m1, rv, ix, gLst, le_size, gNeg, gNotN, gEq_bls, D.clean, frz, fzAt, Tg.put, -List.map_map]
end DL

namespace DL
open PySem PySem.Spec L2
open PyProof.Rows hiding St
theorem end_law {w : World} {K : PySem.W.Frag} {mg : Str → Option Value} {P : Program} {fa : Addr} (T : Txt P K mg) (hfa : mg "law" = some (.ref fa)) {h : Heap} (X : K.In h) (G : h.Ns mainGlobals mg) {f : Addr} {oc : Value} {od an : Option Addr} {osl : Array (Option Value)} {kV doc pm cdv ct : Value} (a : PySem.W.nsIn K mainGlobals "law" = some (some (.ref f))) (l : K.lookup f = some ⟨oc, od, .func (PySem.W.fnOf "law" "law" (defArgs s_law) (defBody s_law) (defScope s_law) .none kV doc pm an cdv ct), osl⟩) (c : PySem.W.codeIn K cdv "law" = true) (k : PySem.W.keepIn K (.ref f) = true) :
    ∃ fd : FuncData, (∀ (s : Shared) (u : Value), BindsTo s fd ⟨[u], []⟩ [("script", u)]) ∧ ∀ base : Heap, K.In base → base.Ns mainGlobals mg → FnG P w K mg base 6 fa fd ["script"] (spD K w mg F_law) := by
  have e := hfa.symm.trans (PySem.W.mg_of X G a)
  cases e
  exact ⟨_, fun s v => .of_eq rfl, fun base _ _ => ok_law T (fun_mk (st := s_law) l c k)⟩
end DL
open PySem PySem.W PyProof.Rows
set_option maxRecDepth 100000 in
set_option maxHeartbeats 0 in
theorem PySem.Challenge.cw_deedroads_k00_errors_are_apart_holds : PySem.Challenge.rw_deedroads_k00_errors_are_apart.Holds := by
  w_on; o_law; k_head; (case hw => w_witness2)
  k_fill
  refine DL.walk_ofG (l := PySem.Challenge.rw_deedroads_k00_errors_are_apart) (n := 63) (k := 6) (x := "script") (F := DL.F_law) rfl (by decide) rfl ⟨rfl, by decide, by decide⟩ (fun w h Y => PySem.W.kIn_of Y) ?G DL.F_law_true
  case G =>
    intro w mg fa h X G hmg
    refine' (fun (d_l_draws : DL.DefAt _ mg "_law_draws" DL.s_l_draws ["script"]) => ?nx1)
      (DL.DefAt.of X G ?a ?l ?c ?k (fun _ _ _ _ _ _ us hl => match us, hl with | [_], _ => rfl)); (case a => k_is); (case l => k_is); (case c => k_is); (case k => k_is)
    refine' (fun (d_l_kinds : DL.DefAt _ mg "_law_kinds" DL.s_l_kinds ["e"]) => ?nx2)
      (DL.DefAt.of X G ?a ?l ?c ?k (fun _ _ _ _ _ _ us hl => match us, hl with | [_], _ => rfl)); (case a => k_is); (case l => k_is); (case c => k_is); (case k => k_is)
    refine' (fun (d_l_made : DL.DefAt _ mg "_law_made" DL.s_l_made ["n"]) => ?nx3)
      (DL.DefAt.of X G ?a ?l ?c ?k (fun _ _ _ _ _ _ us hl => match us, hl with | [_], _ => rfl)); (case a => k_is); (case l => k_is); (case c => k_is); (case k => k_is)
    refine' (fun (d_l_mix : DL.DefAt _ mg "_law_mix" DL.s_l_mix ["draws", "k", "many"]) => ?nx4)
      (DL.DefAt.of X G ?a ?l ?c ?k (fun _ _ _ _ _ _ us hl => match us, hl with | [_, _, _], _ => rfl)); (case a => k_is); (case l => k_is); (case c => k_is); (case k => k_is)
    refine' (fun (d_first_bad : DL.DefAt _ mg "first_bad" DL.s_first_bad ["many", "pairs", "both"]) => ?nx5)
      (DL.DefAt.of X G ?a ?l ?c ?k (fun _ _ _ _ _ _ us hl => match us, hl with | [_, _, _], _ => rfl)); (case a => k_is); (case l => k_is); (case c => k_is); (case k => k_is)
    refine' (fun (d_reached : DL.DefAt _ mg "reached" DL.s_reached ["arrows", "starts"]) => ?nx6)
      (DL.DefAt.of X G ?a ?l ?c ?k (fun _ _ _ _ _ _ us hl => match us, hl with | [_, _], _ => rfl)); (case a => k_is); (case l => k_is); (case c => k_is); (case k => k_is)
    refine' (fun (d_rest_of : DL.DefAt _ mg "rest_of" DL.s_rest_of ["many", "arrows"]) => ?nx7)
      (DL.DefAt.of X G ?a ?l ?c ?k (fun _ _ _ _ _ _ us hl => match us, hl with | [_, _], _ => rfl)); (case a => k_is); (case l => k_is); (case c => k_is); (case k => k_is)
    refine' (fun (d_on_rounds : DL.DefAt _ mg "on_rounds" DL.s_on_rounds ["many", "arrows"]) => ?nx8)
      (DL.DefAt.of X G ?a ?l ?c ?k (fun _ _ _ _ _ _ us hl => match us, hl with | [_, _], _ => rfl)); (case a => k_is); (case l => k_is); (case c => k_is); (case k => k_is)
    refine' (fun (d_check_drawing : DL.DefAt _ mg "check_drawing" DL.s_check_drawing ["drawing"]) => ?nx9)
      (DL.DefAt.of X G ?a ?l ?c ?k (fun _ _ _ _ _ _ us hl => match us, hl with | [_], _ => rfl)); (case a => k_is); (case l => k_is); (case c => k_is); (case k => k_is)
    refine' (fun (d_l_raised : DL.DefAt _ mg "_law_raised" DL.s_l_raised ["many"]) => ?nx10)
      (DL.DefAt.of X G ?a ?l ?c ?k (fun _ _ _ _ _ _ us hl => match us, hl with | [_], _ => rfl)); (case a => k_is); (case l => k_is); (case c => k_is); (case k => k_is)
    refine' (fun (d_law : DL.DefAt _ mg "law" DL.s_law ["script"]) => ?nx11)
      (DL.DefAt.of X G ?a ?l ?c ?k (fun _ _ _ _ _ _ us hl => match us, hl with | [_], _ => rfl)); (case a => k_is); (case l => k_is); (case c => k_is); (case k => k_is)
    refine' (fun (x_BadAnswer : DL.ErrX PySem.Challenge.pw_deedroads_k00_errors_are_apart _ mg "BadAnswer") => ?nx12)
      (DL.ErrX.of (p1 := ⟨4, 17, 4, 21⟩) (p2 := ⟨4, 23, 4, 25⟩) (q1 := ⟨5, 8, 5, 13⟩) (q2 := ⟨5, 8, 5, 15⟩) (q3 := ⟨5, 8, 5, 24⟩) (q4 := ⟨5, 25, 5, 27⟩) (q5 := ⟨5, 8, 5, 28⟩) (q6 := ⟨5, 8, 5, 28⟩) (q7 := ⟨6, 8, 6, 12⟩) (q8 := ⟨6, 8, 6, 15⟩) (q9 := ⟨6, 18, 6, 20⟩) (q10 := ⟨6, 8, 6, 20⟩) X G ?aC ?xL ?bm ?sa ?ga ?gg ?nN ?iC ?tC ?kC ?eC ?yC ?hC ?l ?c ?cell ?code ?vs ?fi ?li ?sup ?sV ?mD ?cD ?op ?nS ?top ?aW ?ha ?hn ?ht ?hm ?e1 ?e2 ?e3 ?e4);
      (case aC => k_is); (case xL => k_is); (case bm => decide); (case sa => k_is); (case ga => k_is); (case gg => k_is); (case nN => k_is); (case iC => k_is); (case tC => k_is); (case kC => k_is); (case eC => k_is); (case yC => k_is); (case hC => k_is); (case l => k_is); (case c => k_is); (case cell => k_is); (case code => k_is); (case vs => rfl); (case fi => first | rfl | decide +kernel); (case li => rfl); (case sup => ks_is); (case sV => k_is); (case mD => k_is); (case cD => k_is); (case op => k_is); (case nS => k_is); (case top => first | rfl | decide +kernel); (case aW => k_is); (case ha => k_is); (case hn => k_is); (case ht => k_is); (case hm => k_is); (case e1 => rfl); (case e2 => first | rfl | decide +kernel); (case e3 => first | rfl | decide +kernel); (case e4 => first | rfl | decide +kernel)
    refine' (fun (x_BadArrow : DL.ErrX PySem.Challenge.pw_deedroads_k00_errors_are_apart _ mg "BadArrow") => ?nx13)
      (DL.ErrX.of (p1 := ⟨4, 17, 4, 21⟩) (p2 := ⟨4, 23, 4, 25⟩) (q1 := ⟨5, 8, 5, 13⟩) (q2 := ⟨5, 8, 5, 15⟩) (q3 := ⟨5, 8, 5, 24⟩) (q4 := ⟨5, 25, 5, 27⟩) (q5 := ⟨5, 8, 5, 28⟩) (q6 := ⟨5, 8, 5, 28⟩) (q7 := ⟨6, 8, 6, 12⟩) (q8 := ⟨6, 8, 6, 15⟩) (q9 := ⟨6, 18, 6, 20⟩) (q10 := ⟨6, 8, 6, 20⟩) X G ?aC ?xL ?bm ?sa ?ga ?gg ?nN ?iC ?tC ?kC ?eC ?yC ?hC ?l ?c ?cell ?code ?vs ?fi ?li ?sup ?sV ?mD ?cD ?op ?nS ?top ?aW ?ha ?hn ?ht ?hm ?e1 ?e2 ?e3 ?e4);
      (case aC => k_is); (case xL => k_is); (case bm => decide); (case sa => k_is); (case ga => k_is); (case gg => k_is); (case nN => k_is); (case iC => k_is); (case tC => k_is); (case kC => k_is); (case eC => k_is); (case yC => k_is); (case hC => k_is); (case l => k_is); (case c => k_is); (case cell => k_is); (case code => k_is); (case vs => rfl); (case fi => first | rfl | decide +kernel); (case li => rfl); (case sup => ks_is); (case sV => k_is); (case mD => k_is); (case cD => k_is); (case op => k_is); (case nS => k_is); (case top => first | rfl | decide +kernel); (case aW => k_is); (case ha => k_is); (case hn => k_is); (case ht => k_is); (case hm => k_is); (case e1 => rfl); (case e2 => first | rfl | decide +kernel); (case e3 => first | rfl | decide +kernel); (case e4 => first | rfl | decide +kernel)
    refine' (fun (x_BadCauses : DL.ErrX PySem.Challenge.pw_deedroads_k00_errors_are_apart _ mg "BadCauses") => ?nx14)
      (DL.ErrX.of (p1 := ⟨4, 17, 4, 21⟩) (p2 := ⟨4, 23, 4, 25⟩) (q1 := ⟨5, 8, 5, 13⟩) (q2 := ⟨5, 8, 5, 15⟩) (q3 := ⟨5, 8, 5, 24⟩) (q4 := ⟨5, 25, 5, 27⟩) (q5 := ⟨5, 8, 5, 28⟩) (q6 := ⟨5, 8, 5, 28⟩) (q7 := ⟨6, 8, 6, 12⟩) (q8 := ⟨6, 8, 6, 15⟩) (q9 := ⟨6, 18, 6, 20⟩) (q10 := ⟨6, 8, 6, 20⟩) X G ?aC ?xL ?bm ?sa ?ga ?gg ?nN ?iC ?tC ?kC ?eC ?yC ?hC ?l ?c ?cell ?code ?vs ?fi ?li ?sup ?sV ?mD ?cD ?op ?nS ?top ?aW ?ha ?hn ?ht ?hm ?e1 ?e2 ?e3 ?e4);
      (case aC => k_is); (case xL => k_is); (case bm => decide); (case sa => k_is); (case ga => k_is); (case gg => k_is); (case nN => k_is); (case iC => k_is); (case tC => k_is); (case kC => k_is); (case eC => k_is); (case yC => k_is); (case hC => k_is); (case l => k_is); (case c => k_is); (case cell => k_is); (case code => k_is); (case vs => rfl); (case fi => first | rfl | decide +kernel); (case li => rfl); (case sup => ks_is); (case sV => k_is); (case mD => k_is); (case cD => k_is); (case op => k_is); (case nS => k_is); (case top => first | rfl | decide +kernel); (case aW => k_is); (case ha => k_is); (case hn => k_is); (case ht => k_is); (case hm => k_is); (case e1 => rfl); (case e2 => first | rfl | decide +kernel); (case e3 => first | rfl | decide +kernel); (case e4 => first | rfl | decide +kernel)
    refine' (fun (x_BadDeed : DL.ErrX PySem.Challenge.pw_deedroads_k00_errors_are_apart _ mg "BadDeed") => ?nx15)
      (DL.ErrX.of (p1 := ⟨4, 17, 4, 21⟩) (p2 := ⟨4, 23, 4, 25⟩) (q1 := ⟨5, 8, 5, 13⟩) (q2 := ⟨5, 8, 5, 15⟩) (q3 := ⟨5, 8, 5, 24⟩) (q4 := ⟨5, 25, 5, 27⟩) (q5 := ⟨5, 8, 5, 28⟩) (q6 := ⟨5, 8, 5, 28⟩) (q7 := ⟨6, 8, 6, 12⟩) (q8 := ⟨6, 8, 6, 15⟩) (q9 := ⟨6, 18, 6, 20⟩) (q10 := ⟨6, 8, 6, 20⟩) X G ?aC ?xL ?bm ?sa ?ga ?gg ?nN ?iC ?tC ?kC ?eC ?yC ?hC ?l ?c ?cell ?code ?vs ?fi ?li ?sup ?sV ?mD ?cD ?op ?nS ?top ?aW ?ha ?hn ?ht ?hm ?e1 ?e2 ?e3 ?e4);
      (case aC => k_is); (case xL => k_is); (case bm => decide); (case sa => k_is); (case ga => k_is); (case gg => k_is); (case nN => k_is); (case iC => k_is); (case tC => k_is); (case kC => k_is); (case eC => k_is); (case yC => k_is); (case hC => k_is); (case l => k_is); (case c => k_is); (case cell => k_is); (case code => k_is); (case vs => rfl); (case fi => first | rfl | decide +kernel); (case li => rfl); (case sup => ks_is); (case sV => k_is); (case mD => k_is); (case cD => k_is); (case op => k_is); (case nS => k_is); (case top => first | rfl | decide +kernel); (case aW => k_is); (case ha => k_is); (case hn => k_is); (case ht => k_is); (case hm => k_is); (case e1 => rfl); (case e2 => first | rfl | decide +kernel); (case e3 => first | rfl | decide +kernel); (case e4 => first | rfl | decide +kernel)
    refine' (fun (x_BadFinding : DL.ErrX PySem.Challenge.pw_deedroads_k00_errors_are_apart _ mg "BadFinding") => ?nx16)
      (DL.ErrX.of (p1 := ⟨4, 17, 4, 21⟩) (p2 := ⟨4, 23, 4, 25⟩) (q1 := ⟨5, 8, 5, 13⟩) (q2 := ⟨5, 8, 5, 15⟩) (q3 := ⟨5, 8, 5, 24⟩) (q4 := ⟨5, 25, 5, 27⟩) (q5 := ⟨5, 8, 5, 28⟩) (q6 := ⟨5, 8, 5, 28⟩) (q7 := ⟨6, 8, 6, 12⟩) (q8 := ⟨6, 8, 6, 15⟩) (q9 := ⟨6, 18, 6, 20⟩) (q10 := ⟨6, 8, 6, 20⟩) X G ?aC ?xL ?bm ?sa ?ga ?gg ?nN ?iC ?tC ?kC ?eC ?yC ?hC ?l ?c ?cell ?code ?vs ?fi ?li ?sup ?sV ?mD ?cD ?op ?nS ?top ?aW ?ha ?hn ?ht ?hm ?e1 ?e2 ?e3 ?e4);
      (case aC => k_is); (case xL => k_is); (case bm => decide); (case sa => k_is); (case ga => k_is); (case gg => k_is); (case nN => k_is); (case iC => k_is); (case tC => k_is); (case kC => k_is); (case eC => k_is); (case yC => k_is); (case hC => k_is); (case l => k_is); (case c => k_is); (case cell => k_is); (case code => k_is); (case vs => rfl); (case fi => first | rfl | decide +kernel); (case li => rfl); (case sup => ks_is); (case sV => k_is); (case mD => k_is); (case cD => k_is); (case op => k_is); (case nS => k_is); (case top => first | rfl | decide +kernel); (case aW => k_is); (case ha => k_is); (case hn => k_is); (case ht => k_is); (case hm => k_is); (case e1 => rfl); (case e2 => first | rfl | decide +kernel); (case e3 => first | rfl | decide +kernel); (case e4 => first | rfl | decide +kernel)
    refine' (fun (x_BadKinds : DL.ErrX PySem.Challenge.pw_deedroads_k00_errors_are_apart _ mg "BadKinds") => ?nx17)
      (DL.ErrX.of (p1 := ⟨4, 17, 4, 21⟩) (p2 := ⟨4, 23, 4, 25⟩) (q1 := ⟨5, 8, 5, 13⟩) (q2 := ⟨5, 8, 5, 15⟩) (q3 := ⟨5, 8, 5, 24⟩) (q4 := ⟨5, 25, 5, 27⟩) (q5 := ⟨5, 8, 5, 28⟩) (q6 := ⟨5, 8, 5, 28⟩) (q7 := ⟨6, 8, 6, 12⟩) (q8 := ⟨6, 8, 6, 15⟩) (q9 := ⟨6, 18, 6, 20⟩) (q10 := ⟨6, 8, 6, 20⟩) X G ?aC ?xL ?bm ?sa ?ga ?gg ?nN ?iC ?tC ?kC ?eC ?yC ?hC ?l ?c ?cell ?code ?vs ?fi ?li ?sup ?sV ?mD ?cD ?op ?nS ?top ?aW ?ha ?hn ?ht ?hm ?e1 ?e2 ?e3 ?e4);
      (case aC => k_is); (case xL => k_is); (case bm => decide); (case sa => k_is); (case ga => k_is); (case gg => k_is); (case nN => k_is); (case iC => k_is); (case tC => k_is); (case kC => k_is); (case eC => k_is); (case yC => k_is); (case hC => k_is); (case l => k_is); (case c => k_is); (case cell => k_is); (case code => k_is); (case vs => rfl); (case fi => first | rfl | decide +kernel); (case li => rfl); (case sup => ks_is); (case sV => k_is); (case mD => k_is); (case cD => k_is); (case op => k_is); (case nS => k_is); (case top => first | rfl | decide +kernel); (case aW => k_is); (case ha => k_is); (case hn => k_is); (case ht => k_is); (case hm => k_is); (case e1 => rfl); (case e2 => first | rfl | decide +kernel); (case e3 => first | rfl | decide +kernel); (case e4 => first | rfl | decide +kernel)
    refine' (fun (x_BadLaw : DL.ErrX PySem.Challenge.pw_deedroads_k00_errors_are_apart _ mg "BadLaw") => ?nx18)
      (DL.ErrX.of (p1 := ⟨4, 17, 4, 21⟩) (p2 := ⟨4, 23, 4, 25⟩) (q1 := ⟨5, 8, 5, 13⟩) (q2 := ⟨5, 8, 5, 15⟩) (q3 := ⟨5, 8, 5, 24⟩) (q4 := ⟨5, 25, 5, 27⟩) (q5 := ⟨5, 8, 5, 28⟩) (q6 := ⟨5, 8, 5, 28⟩) (q7 := ⟨6, 8, 6, 12⟩) (q8 := ⟨6, 8, 6, 15⟩) (q9 := ⟨6, 18, 6, 20⟩) (q10 := ⟨6, 8, 6, 20⟩) X G ?aC ?xL ?bm ?sa ?ga ?gg ?nN ?iC ?tC ?kC ?eC ?yC ?hC ?l ?c ?cell ?code ?vs ?fi ?li ?sup ?sV ?mD ?cD ?op ?nS ?top ?aW ?ha ?hn ?ht ?hm ?e1 ?e2 ?e3 ?e4);
      (case aC => k_is); (case xL => k_is); (case bm => decide); (case sa => k_is); (case ga => k_is); (case gg => k_is); (case nN => k_is); (case iC => k_is); (case tC => k_is); (case kC => k_is); (case eC => k_is); (case yC => k_is); (case hC => k_is); (case l => k_is); (case c => k_is); (case cell => k_is); (case code => k_is); (case vs => rfl); (case fi => first | rfl | decide +kernel); (case li => rfl); (case sup => ks_is); (case sV => k_is); (case mD => k_is); (case cD => k_is); (case op => k_is); (case nS => k_is); (case top => first | rfl | decide +kernel); (case aW => k_is); (case ha => k_is); (case hn => k_is); (case ht => k_is); (case hm => k_is); (case e1 => rfl); (case e2 => first | rfl | decide +kernel); (case e3 => first | rfl | decide +kernel); (case e4 => first | rfl | decide +kernel)
    refine' (fun (x_BadMarks : DL.ErrX PySem.Challenge.pw_deedroads_k00_errors_are_apart _ mg "BadMarks") => ?nx19)
      (DL.ErrX.of (p1 := ⟨4, 17, 4, 21⟩) (p2 := ⟨4, 23, 4, 25⟩) (q1 := ⟨5, 8, 5, 13⟩) (q2 := ⟨5, 8, 5, 15⟩) (q3 := ⟨5, 8, 5, 24⟩) (q4 := ⟨5, 25, 5, 27⟩) (q5 := ⟨5, 8, 5, 28⟩) (q6 := ⟨5, 8, 5, 28⟩) (q7 := ⟨6, 8, 6, 12⟩) (q8 := ⟨6, 8, 6, 15⟩) (q9 := ⟨6, 18, 6, 20⟩) (q10 := ⟨6, 8, 6, 20⟩) X G ?aC ?xL ?bm ?sa ?ga ?gg ?nN ?iC ?tC ?kC ?eC ?yC ?hC ?l ?c ?cell ?code ?vs ?fi ?li ?sup ?sV ?mD ?cD ?op ?nS ?top ?aW ?ha ?hn ?ht ?hm ?e1 ?e2 ?e3 ?e4);
      (case aC => k_is); (case xL => k_is); (case bm => decide); (case sa => k_is); (case ga => k_is); (case gg => k_is); (case nN => k_is); (case iC => k_is); (case tC => k_is); (case kC => k_is); (case eC => k_is); (case yC => k_is); (case hC => k_is); (case l => k_is); (case c => k_is); (case cell => k_is); (case code => k_is); (case vs => rfl); (case fi => first | rfl | decide +kernel); (case li => rfl); (case sup => ks_is); (case sV => k_is); (case mD => k_is); (case cD => k_is); (case op => k_is); (case nS => k_is); (case top => first | rfl | decide +kernel); (case aW => k_is); (case ha => k_is); (case hn => k_is); (case ht => k_is); (case hm => k_is); (case e1 => rfl); (case e2 => first | rfl | decide +kernel); (case e3 => first | rfl | decide +kernel); (case e4 => first | rfl | decide +kernel)
    refine' (fun (x_BadRecord : DL.ErrX PySem.Challenge.pw_deedroads_k00_errors_are_apart _ mg "BadRecord") => ?nx20)
      (DL.ErrX.of (p1 := ⟨4, 17, 4, 21⟩) (p2 := ⟨4, 23, 4, 25⟩) (q1 := ⟨5, 8, 5, 13⟩) (q2 := ⟨5, 8, 5, 15⟩) (q3 := ⟨5, 8, 5, 24⟩) (q4 := ⟨5, 25, 5, 27⟩) (q5 := ⟨5, 8, 5, 28⟩) (q6 := ⟨5, 8, 5, 28⟩) (q7 := ⟨6, 8, 6, 12⟩) (q8 := ⟨6, 8, 6, 15⟩) (q9 := ⟨6, 18, 6, 20⟩) (q10 := ⟨6, 8, 6, 20⟩) X G ?aC ?xL ?bm ?sa ?ga ?gg ?nN ?iC ?tC ?kC ?eC ?yC ?hC ?l ?c ?cell ?code ?vs ?fi ?li ?sup ?sV ?mD ?cD ?op ?nS ?top ?aW ?ha ?hn ?ht ?hm ?e1 ?e2 ?e3 ?e4);
      (case aC => k_is); (case xL => k_is); (case bm => decide); (case sa => k_is); (case ga => k_is); (case gg => k_is); (case nN => k_is); (case iC => k_is); (case tC => k_is); (case kC => k_is); (case eC => k_is); (case yC => k_is); (case hC => k_is); (case l => k_is); (case c => k_is); (case cell => k_is); (case code => k_is); (case vs => rfl); (case fi => first | rfl | decide +kernel); (case li => rfl); (case sup => ks_is); (case sV => k_is); (case mD => k_is); (case cD => k_is); (case op => k_is); (case nS => k_is); (case top => first | rfl | decide +kernel); (case aW => k_is); (case ha => k_is); (case hn => k_is); (case ht => k_is); (case hm => k_is); (case e1 => rfl); (case e2 => first | rfl | decide +kernel); (case e3 => first | rfl | decide +kernel); (case e4 => first | rfl | decide +kernel)
    refine' (fun (x_BadShares : DL.ErrX PySem.Challenge.pw_deedroads_k00_errors_are_apart _ mg "BadShares") => ?nx21)
      (DL.ErrX.of (p1 := ⟨4, 17, 4, 21⟩) (p2 := ⟨4, 23, 4, 25⟩) (q1 := ⟨5, 8, 5, 13⟩) (q2 := ⟨5, 8, 5, 15⟩) (q3 := ⟨5, 8, 5, 24⟩) (q4 := ⟨5, 25, 5, 27⟩) (q5 := ⟨5, 8, 5, 28⟩) (q6 := ⟨5, 8, 5, 28⟩) (q7 := ⟨6, 8, 6, 12⟩) (q8 := ⟨6, 8, 6, 15⟩) (q9 := ⟨6, 18, 6, 20⟩) (q10 := ⟨6, 8, 6, 20⟩) X G ?aC ?xL ?bm ?sa ?ga ?gg ?nN ?iC ?tC ?kC ?eC ?yC ?hC ?l ?c ?cell ?code ?vs ?fi ?li ?sup ?sV ?mD ?cD ?op ?nS ?top ?aW ?ha ?hn ?ht ?hm ?e1 ?e2 ?e3 ?e4);
      (case aC => k_is); (case xL => k_is); (case bm => decide); (case sa => k_is); (case ga => k_is); (case gg => k_is); (case nN => k_is); (case iC => k_is); (case tC => k_is); (case kC => k_is); (case eC => k_is); (case yC => k_is); (case hC => k_is); (case l => k_is); (case c => k_is); (case cell => k_is); (case code => k_is); (case vs => rfl); (case fi => first | rfl | decide +kernel); (case li => rfl); (case sup => ks_is); (case sV => k_is); (case mD => k_is); (case cD => k_is); (case op => k_is); (case nS => k_is); (case top => first | rfl | decide +kernel); (case aW => k_is); (case ha => k_is); (case hn => k_is); (case ht => k_is); (case hm => k_is); (case e1 => rfl); (case e2 => first | rfl | decide +kernel); (case e3 => first | rfl | decide +kernel); (case e4 => first | rfl | decide +kernel)
    refine' (fun (x_BadStep : DL.ErrX PySem.Challenge.pw_deedroads_k00_errors_are_apart _ mg "BadStep") => ?nx22)
      (DL.ErrX.of (p1 := ⟨4, 17, 4, 21⟩) (p2 := ⟨4, 23, 4, 25⟩) (q1 := ⟨5, 8, 5, 13⟩) (q2 := ⟨5, 8, 5, 15⟩) (q3 := ⟨5, 8, 5, 24⟩) (q4 := ⟨5, 25, 5, 27⟩) (q5 := ⟨5, 8, 5, 28⟩) (q6 := ⟨5, 8, 5, 28⟩) (q7 := ⟨6, 8, 6, 12⟩) (q8 := ⟨6, 8, 6, 15⟩) (q9 := ⟨6, 18, 6, 20⟩) (q10 := ⟨6, 8, 6, 20⟩) X G ?aC ?xL ?bm ?sa ?ga ?gg ?nN ?iC ?tC ?kC ?eC ?yC ?hC ?l ?c ?cell ?code ?vs ?fi ?li ?sup ?sV ?mD ?cD ?op ?nS ?top ?aW ?ha ?hn ?ht ?hm ?e1 ?e2 ?e3 ?e4);
      (case aC => k_is); (case xL => k_is); (case bm => decide); (case sa => k_is); (case ga => k_is); (case gg => k_is); (case nN => k_is); (case iC => k_is); (case tC => k_is); (case kC => k_is); (case eC => k_is); (case yC => k_is); (case hC => k_is); (case l => k_is); (case c => k_is); (case cell => k_is); (case code => k_is); (case vs => rfl); (case fi => first | rfl | decide +kernel); (case li => rfl); (case sup => ks_is); (case sV => k_is); (case mD => k_is); (case cD => k_is); (case op => k_is); (case nS => k_is); (case top => first | rfl | decide +kernel); (case aW => k_is); (case ha => k_is); (case hn => k_is); (case ht => k_is); (case hm => k_is); (case e1 => rfl); (case e2 => first | rfl | decide +kernel); (case e3 => first | rfl | decide +kernel); (case e4 => first | rfl | decide +kernel)
    refine' (fun (x_BadTable : DL.ErrX PySem.Challenge.pw_deedroads_k00_errors_are_apart _ mg "BadTable") => ?nx23)
      (DL.ErrX.of (p1 := ⟨4, 17, 4, 21⟩) (p2 := ⟨4, 23, 4, 25⟩) (q1 := ⟨5, 8, 5, 13⟩) (q2 := ⟨5, 8, 5, 15⟩) (q3 := ⟨5, 8, 5, 24⟩) (q4 := ⟨5, 25, 5, 27⟩) (q5 := ⟨5, 8, 5, 28⟩) (q6 := ⟨5, 8, 5, 28⟩) (q7 := ⟨6, 8, 6, 12⟩) (q8 := ⟨6, 8, 6, 15⟩) (q9 := ⟨6, 18, 6, 20⟩) (q10 := ⟨6, 8, 6, 20⟩) X G ?aC ?xL ?bm ?sa ?ga ?gg ?nN ?iC ?tC ?kC ?eC ?yC ?hC ?l ?c ?cell ?code ?vs ?fi ?li ?sup ?sV ?mD ?cD ?op ?nS ?top ?aW ?ha ?hn ?ht ?hm ?e1 ?e2 ?e3 ?e4);
      (case aC => k_is); (case xL => k_is); (case bm => decide); (case sa => k_is); (case ga => k_is); (case gg => k_is); (case nN => k_is); (case iC => k_is); (case tC => k_is); (case kC => k_is); (case eC => k_is); (case yC => k_is); (case hC => k_is); (case l => k_is); (case c => k_is); (case cell => k_is); (case code => k_is); (case vs => rfl); (case fi => first | rfl | decide +kernel); (case li => rfl); (case sup => ks_is); (case sV => k_is); (case mD => k_is); (case cD => k_is); (case op => k_is); (case nS => k_is); (case top => first | rfl | decide +kernel); (case aW => k_is); (case ha => k_is); (case hn => k_is); (case ht => k_is); (case hm => k_is); (case e1 => rfl); (case e2 => first | rfl | decide +kernel); (case e3 => first | rfl | decide +kernel); (case e4 => first | rfl | decide +kernel)
    refine' (fun (x_BadTie : DL.ErrX PySem.Challenge.pw_deedroads_k00_errors_are_apart _ mg "BadTie") => ?nx24)
      (DL.ErrX.of (p1 := ⟨4, 17, 4, 21⟩) (p2 := ⟨4, 23, 4, 25⟩) (q1 := ⟨5, 8, 5, 13⟩) (q2 := ⟨5, 8, 5, 15⟩) (q3 := ⟨5, 8, 5, 24⟩) (q4 := ⟨5, 25, 5, 27⟩) (q5 := ⟨5, 8, 5, 28⟩) (q6 := ⟨5, 8, 5, 28⟩) (q7 := ⟨6, 8, 6, 12⟩) (q8 := ⟨6, 8, 6, 15⟩) (q9 := ⟨6, 18, 6, 20⟩) (q10 := ⟨6, 8, 6, 20⟩) X G ?aC ?xL ?bm ?sa ?ga ?gg ?nN ?iC ?tC ?kC ?eC ?yC ?hC ?l ?c ?cell ?code ?vs ?fi ?li ?sup ?sV ?mD ?cD ?op ?nS ?top ?aW ?ha ?hn ?ht ?hm ?e1 ?e2 ?e3 ?e4);
      (case aC => k_is); (case xL => k_is); (case bm => decide); (case sa => k_is); (case ga => k_is); (case gg => k_is); (case nN => k_is); (case iC => k_is); (case tC => k_is); (case kC => k_is); (case eC => k_is); (case yC => k_is); (case hC => k_is); (case l => k_is); (case c => k_is); (case cell => k_is); (case code => k_is); (case vs => rfl); (case fi => first | rfl | decide +kernel); (case li => rfl); (case sup => ks_is); (case sV => k_is); (case mD => k_is); (case cD => k_is); (case op => k_is); (case nS => k_is); (case top => first | rfl | decide +kernel); (case aW => k_is); (case ha => k_is); (case hn => k_is); (case ht => k_is); (case hm => k_is); (case e1 => rfl); (case e2 => first | rfl | decide +kernel); (case e3 => first | rfl | decide +kernel); (case e4 => first | rfl | decide +kernel)
    refine' (fun (x_BadUnseen : DL.ErrX PySem.Challenge.pw_deedroads_k00_errors_are_apart _ mg "BadUnseen") => ?nx25)
      (DL.ErrX.of (p1 := ⟨4, 17, 4, 21⟩) (p2 := ⟨4, 23, 4, 25⟩) (q1 := ⟨5, 8, 5, 13⟩) (q2 := ⟨5, 8, 5, 15⟩) (q3 := ⟨5, 8, 5, 24⟩) (q4 := ⟨5, 25, 5, 27⟩) (q5 := ⟨5, 8, 5, 28⟩) (q6 := ⟨5, 8, 5, 28⟩) (q7 := ⟨6, 8, 6, 12⟩) (q8 := ⟨6, 8, 6, 15⟩) (q9 := ⟨6, 18, 6, 20⟩) (q10 := ⟨6, 8, 6, 20⟩) X G ?aC ?xL ?bm ?sa ?ga ?gg ?nN ?iC ?tC ?kC ?eC ?yC ?hC ?l ?c ?cell ?code ?vs ?fi ?li ?sup ?sV ?mD ?cD ?op ?nS ?top ?aW ?ha ?hn ?ht ?hm ?e1 ?e2 ?e3 ?e4);
      (case aC => k_is); (case xL => k_is); (case bm => decide); (case sa => k_is); (case ga => k_is); (case gg => k_is); (case nN => k_is); (case iC => k_is); (case tC => k_is); (case kC => k_is); (case eC => k_is); (case yC => k_is); (case hC => k_is); (case l => k_is); (case c => k_is); (case cell => k_is); (case code => k_is); (case vs => rfl); (case fi => first | rfl | decide +kernel); (case li => rfl); (case sup => ks_is); (case sV => k_is); (case mD => k_is); (case cD => k_is); (case op => k_is); (case nS => k_is); (case top => first | rfl | decide +kernel); (case aW => k_is); (case ha => k_is); (case hn => k_is); (case ht => k_is); (case hm => k_is); (case e1 => rfl); (case e2 => first | rfl | decide +kernel); (case e3 => first | rfl | decide +kernel); (case e4 => first | rfl | decide +kernel)
    refine' (fun (x_BadValues : DL.ErrX PySem.Challenge.pw_deedroads_k00_errors_are_apart _ mg "BadValues") => ?nx26)
      (DL.ErrX.of (p1 := ⟨4, 17, 4, 21⟩) (p2 := ⟨4, 23, 4, 25⟩) (q1 := ⟨5, 8, 5, 13⟩) (q2 := ⟨5, 8, 5, 15⟩) (q3 := ⟨5, 8, 5, 24⟩) (q4 := ⟨5, 25, 5, 27⟩) (q5 := ⟨5, 8, 5, 28⟩) (q6 := ⟨5, 8, 5, 28⟩) (q7 := ⟨6, 8, 6, 12⟩) (q8 := ⟨6, 8, 6, 15⟩) (q9 := ⟨6, 18, 6, 20⟩) (q10 := ⟨6, 8, 6, 20⟩) X G ?aC ?xL ?bm ?sa ?ga ?gg ?nN ?iC ?tC ?kC ?eC ?yC ?hC ?l ?c ?cell ?code ?vs ?fi ?li ?sup ?sV ?mD ?cD ?op ?nS ?top ?aW ?ha ?hn ?ht ?hm ?e1 ?e2 ?e3 ?e4);
      (case aC => k_is); (case xL => k_is); (case bm => decide); (case sa => k_is); (case ga => k_is); (case gg => k_is); (case nN => k_is); (case iC => k_is); (case tC => k_is); (case kC => k_is); (case eC => k_is); (case yC => k_is); (case hC => k_is); (case l => k_is); (case c => k_is); (case cell => k_is); (case code => k_is); (case vs => rfl); (case fi => first | rfl | decide +kernel); (case li => rfl); (case sup => ks_is); (case sV => k_is); (case mD => k_is); (case cD => k_is); (case op => k_is); (case nS => k_is); (case top => first | rfl | decide +kernel); (case aW => k_is); (case ha => k_is); (case hn => k_is); (case ht => k_is); (case hm => k_is); (case e1 => rfl); (case e2 => first | rfl | decide +kernel); (case e3 => first | rfl | decide +kernel); (case e4 => first | rfl | decide +kernel)
    refine' (fun (x_BadWeight : DL.ErrX PySem.Challenge.pw_deedroads_k00_errors_are_apart _ mg "BadWeight") => ?nx27)
      (DL.ErrX.of (p1 := ⟨4, 17, 4, 21⟩) (p2 := ⟨4, 23, 4, 25⟩) (q1 := ⟨5, 8, 5, 13⟩) (q2 := ⟨5, 8, 5, 15⟩) (q3 := ⟨5, 8, 5, 24⟩) (q4 := ⟨5, 25, 5, 27⟩) (q5 := ⟨5, 8, 5, 28⟩) (q6 := ⟨5, 8, 5, 28⟩) (q7 := ⟨6, 8, 6, 12⟩) (q8 := ⟨6, 8, 6, 15⟩) (q9 := ⟨6, 18, 6, 20⟩) (q10 := ⟨6, 8, 6, 20⟩) X G ?aC ?xL ?bm ?sa ?ga ?gg ?nN ?iC ?tC ?kC ?eC ?yC ?hC ?l ?c ?cell ?code ?vs ?fi ?li ?sup ?sV ?mD ?cD ?op ?nS ?top ?aW ?ha ?hn ?ht ?hm ?e1 ?e2 ?e3 ?e4);
      (case aC => k_is); (case xL => k_is); (case bm => decide); (case sa => k_is); (case ga => k_is); (case gg => k_is); (case nN => k_is); (case iC => k_is); (case tC => k_is); (case kC => k_is); (case eC => k_is); (case yC => k_is); (case hC => k_is); (case l => k_is); (case c => k_is); (case cell => k_is); (case code => k_is); (case vs => rfl); (case fi => first | rfl | decide +kernel); (case li => rfl); (case sup => ks_is); (case sV => k_is); (case mD => k_is); (case cD => k_is); (case op => k_is); (case nS => k_is); (case top => first | rfl | decide +kernel); (case aW => k_is); (case ha => k_is); (case hn => k_is); (case ht => k_is); (case hm => k_is); (case e1 => rfl); (case e2 => first | rfl | decide +kernel); (case e3 => first | rfl | decide +kernel); (case e4 => first | rfl | decide +kernel)
    refine' (fun (x_NoVariable : DL.ErrX PySem.Challenge.pw_deedroads_k00_errors_are_apart _ mg "NoVariable") => ?nx28)
      (DL.ErrX.of (p1 := ⟨4, 17, 4, 21⟩) (p2 := ⟨4, 23, 4, 25⟩) (q1 := ⟨5, 8, 5, 13⟩) (q2 := ⟨5, 8, 5, 15⟩) (q3 := ⟨5, 8, 5, 24⟩) (q4 := ⟨5, 25, 5, 27⟩) (q5 := ⟨5, 8, 5, 28⟩) (q6 := ⟨5, 8, 5, 28⟩) (q7 := ⟨6, 8, 6, 12⟩) (q8 := ⟨6, 8, 6, 15⟩) (q9 := ⟨6, 18, 6, 20⟩) (q10 := ⟨6, 8, 6, 20⟩) X G ?aC ?xL ?bm ?sa ?ga ?gg ?nN ?iC ?tC ?kC ?eC ?yC ?hC ?l ?c ?cell ?code ?vs ?fi ?li ?sup ?sV ?mD ?cD ?op ?nS ?top ?aW ?ha ?hn ?ht ?hm ?e1 ?e2 ?e3 ?e4);
      (case aC => k_is); (case xL => k_is); (case bm => decide); (case sa => k_is); (case ga => k_is); (case gg => k_is); (case nN => k_is); (case iC => k_is); (case tC => k_is); (case kC => k_is); (case eC => k_is); (case yC => k_is); (case hC => k_is); (case l => k_is); (case c => k_is); (case cell => k_is); (case code => k_is); (case vs => rfl); (case fi => first | rfl | decide +kernel); (case li => rfl); (case sup => ks_is); (case sV => k_is); (case mD => k_is); (case cD => k_is); (case op => k_is); (case nS => k_is); (case top => first | rfl | decide +kernel); (case aW => k_is); (case ha => k_is); (case hn => k_is); (case ht => k_is); (case hm => k_is); (case e1 => rfl); (case e2 => first | rfl | decide +kernel); (case e3 => first | rfl | decide +kernel); (case e4 => first | rfl | decide +kernel)
    refine' (fun (x_NotAChild : DL.ErrX PySem.Challenge.pw_deedroads_k00_errors_are_apart _ mg "NotAChild") => ?nx29)
      (DL.ErrX.of (p1 := ⟨4, 17, 4, 21⟩) (p2 := ⟨4, 23, 4, 25⟩) (q1 := ⟨5, 8, 5, 13⟩) (q2 := ⟨5, 8, 5, 15⟩) (q3 := ⟨5, 8, 5, 24⟩) (q4 := ⟨5, 25, 5, 27⟩) (q5 := ⟨5, 8, 5, 28⟩) (q6 := ⟨5, 8, 5, 28⟩) (q7 := ⟨6, 8, 6, 12⟩) (q8 := ⟨6, 8, 6, 15⟩) (q9 := ⟨6, 18, 6, 20⟩) (q10 := ⟨6, 8, 6, 20⟩) X G ?aC ?xL ?bm ?sa ?ga ?gg ?nN ?iC ?tC ?kC ?eC ?yC ?hC ?l ?c ?cell ?code ?vs ?fi ?li ?sup ?sV ?mD ?cD ?op ?nS ?top ?aW ?ha ?hn ?ht ?hm ?e1 ?e2 ?e3 ?e4);
      (case aC => k_is); (case xL => k_is); (case bm => decide); (case sa => k_is); (case ga => k_is); (case gg => k_is); (case nN => k_is); (case iC => k_is); (case tC => k_is); (case kC => k_is); (case eC => k_is); (case yC => k_is); (case hC => k_is); (case l => k_is); (case c => k_is); (case cell => k_is); (case code => k_is); (case vs => rfl); (case fi => first | rfl | decide +kernel); (case li => rfl); (case sup => ks_is); (case sV => k_is); (case mD => k_is); (case cD => k_is); (case op => k_is); (case nS => k_is); (case top => first | rfl | decide +kernel); (case aW => k_is); (case ha => k_is); (case hn => k_is); (case ht => k_is); (case hm => k_is); (case e1 => rfl); (case e2 => first | rfl | decide +kernel); (case e3 => first | rfl | decide +kernel); (case e4 => first | rfl | decide +kernel)
    refine' (fun (x_NotASet : DL.ErrX PySem.Challenge.pw_deedroads_k00_errors_are_apart _ mg "NotASet") => ?nx30)
      (DL.ErrX.of (p1 := ⟨4, 17, 4, 21⟩) (p2 := ⟨4, 23, 4, 25⟩) (q1 := ⟨5, 8, 5, 13⟩) (q2 := ⟨5, 8, 5, 15⟩) (q3 := ⟨5, 8, 5, 24⟩) (q4 := ⟨5, 25, 5, 27⟩) (q5 := ⟨5, 8, 5, 28⟩) (q6 := ⟨5, 8, 5, 28⟩) (q7 := ⟨6, 8, 6, 12⟩) (q8 := ⟨6, 8, 6, 15⟩) (q9 := ⟨6, 18, 6, 20⟩) (q10 := ⟨6, 8, 6, 20⟩) X G ?aC ?xL ?bm ?sa ?ga ?gg ?nN ?iC ?tC ?kC ?eC ?yC ?hC ?l ?c ?cell ?code ?vs ?fi ?li ?sup ?sV ?mD ?cD ?op ?nS ?top ?aW ?ha ?hn ?ht ?hm ?e1 ?e2 ?e3 ?e4);
      (case aC => k_is); (case xL => k_is); (case bm => decide); (case sa => k_is); (case ga => k_is); (case gg => k_is); (case nN => k_is); (case iC => k_is); (case tC => k_is); (case kC => k_is); (case eC => k_is); (case yC => k_is); (case hC => k_is); (case l => k_is); (case c => k_is); (case cell => k_is); (case code => k_is); (case vs => rfl); (case fi => first | rfl | decide +kernel); (case li => rfl); (case sup => ks_is); (case sV => k_is); (case mD => k_is); (case cD => k_is); (case op => k_is); (case nS => k_is); (case top => first | rfl | decide +kernel); (case aW => k_is); (case ha => k_is); (case hn => k_is); (case ht => k_is); (case hm => k_is); (case e1 => rfl); (case e2 => first | rfl | decide +kernel); (case e3 => first | rfl | decide +kernel); (case e4 => first | rfl | decide +kernel)
    refine' (fun (x_NothingToUndo : DL.ErrX PySem.Challenge.pw_deedroads_k00_errors_are_apart _ mg "NothingToUndo") => ?nx31)
      (DL.ErrX.of (p1 := ⟨4, 17, 4, 21⟩) (p2 := ⟨4, 23, 4, 25⟩) (q1 := ⟨5, 8, 5, 13⟩) (q2 := ⟨5, 8, 5, 15⟩) (q3 := ⟨5, 8, 5, 24⟩) (q4 := ⟨5, 25, 5, 27⟩) (q5 := ⟨5, 8, 5, 28⟩) (q6 := ⟨5, 8, 5, 28⟩) (q7 := ⟨6, 8, 6, 12⟩) (q8 := ⟨6, 8, 6, 15⟩) (q9 := ⟨6, 18, 6, 20⟩) (q10 := ⟨6, 8, 6, 20⟩) X G ?aC ?xL ?bm ?sa ?ga ?gg ?nN ?iC ?tC ?kC ?eC ?yC ?hC ?l ?c ?cell ?code ?vs ?fi ?li ?sup ?sV ?mD ?cD ?op ?nS ?top ?aW ?ha ?hn ?ht ?hm ?e1 ?e2 ?e3 ?e4);
      (case aC => k_is); (case xL => k_is); (case bm => decide); (case sa => k_is); (case ga => k_is); (case gg => k_is); (case nN => k_is); (case iC => k_is); (case tC => k_is); (case kC => k_is); (case eC => k_is); (case yC => k_is); (case hC => k_is); (case l => k_is); (case c => k_is); (case cell => k_is); (case code => k_is); (case vs => rfl); (case fi => first | rfl | decide +kernel); (case li => rfl); (case sup => ks_is); (case sV => k_is); (case mD => k_is); (case cD => k_is); (case op => k_is); (case nS => k_is); (case top => first | rfl | decide +kernel); (case aW => k_is); (case ha => k_is); (case hn => k_is); (case ht => k_is); (case hm => k_is); (case e1 => rfl); (case e2 => first | rfl | decide +kernel); (case e3 => first | rfl | decide +kernel); (case e4 => first | rfl | decide +kernel)
    refine' (fun (x_OutOfRange : DL.ErrX PySem.Challenge.pw_deedroads_k00_errors_are_apart _ mg "OutOfRange") => ?nx32)
      (DL.ErrX.of (p1 := ⟨4, 17, 4, 21⟩) (p2 := ⟨4, 23, 4, 25⟩) (q1 := ⟨5, 8, 5, 13⟩) (q2 := ⟨5, 8, 5, 15⟩) (q3 := ⟨5, 8, 5, 24⟩) (q4 := ⟨5, 25, 5, 27⟩) (q5 := ⟨5, 8, 5, 28⟩) (q6 := ⟨5, 8, 5, 28⟩) (q7 := ⟨6, 8, 6, 12⟩) (q8 := ⟨6, 8, 6, 15⟩) (q9 := ⟨6, 18, 6, 20⟩) (q10 := ⟨6, 8, 6, 20⟩) X G ?aC ?xL ?bm ?sa ?ga ?gg ?nN ?iC ?tC ?kC ?eC ?yC ?hC ?l ?c ?cell ?code ?vs ?fi ?li ?sup ?sV ?mD ?cD ?op ?nS ?top ?aW ?ha ?hn ?ht ?hm ?e1 ?e2 ?e3 ?e4);
      (case aC => k_is); (case xL => k_is); (case bm => decide); (case sa => k_is); (case ga => k_is); (case gg => k_is); (case nN => k_is); (case iC => k_is); (case tC => k_is); (case kC => k_is); (case eC => k_is); (case yC => k_is); (case hC => k_is); (case l => k_is); (case c => k_is); (case cell => k_is); (case code => k_is); (case vs => rfl); (case fi => first | rfl | decide +kernel); (case li => rfl); (case sup => ks_is); (case sV => k_is); (case mD => k_is); (case cD => k_is); (case op => k_is); (case nS => k_is); (case top => first | rfl | decide +kernel); (case aW => k_is); (case ha => k_is); (case hn => k_is); (case ht => k_is); (case hm => k_is); (case e1 => rfl); (case e2 => first | rfl | decide +kernel); (case e3 => first | rfl | decide +kernel); (case e4 => first | rfl | decide +kernel)
    refine' (fun (x_Overlap : DL.ErrX PySem.Challenge.pw_deedroads_k00_errors_are_apart _ mg "Overlap") => ?nx33)
      (DL.ErrX.of (p1 := ⟨4, 17, 4, 21⟩) (p2 := ⟨4, 23, 4, 25⟩) (q1 := ⟨5, 8, 5, 13⟩) (q2 := ⟨5, 8, 5, 15⟩) (q3 := ⟨5, 8, 5, 24⟩) (q4 := ⟨5, 25, 5, 27⟩) (q5 := ⟨5, 8, 5, 28⟩) (q6 := ⟨5, 8, 5, 28⟩) (q7 := ⟨6, 8, 6, 12⟩) (q8 := ⟨6, 8, 6, 15⟩) (q9 := ⟨6, 18, 6, 20⟩) (q10 := ⟨6, 8, 6, 20⟩) X G ?aC ?xL ?bm ?sa ?ga ?gg ?nN ?iC ?tC ?kC ?eC ?yC ?hC ?l ?c ?cell ?code ?vs ?fi ?li ?sup ?sV ?mD ?cD ?op ?nS ?top ?aW ?ha ?hn ?ht ?hm ?e1 ?e2 ?e3 ?e4);
      (case aC => k_is); (case xL => k_is); (case bm => decide); (case sa => k_is); (case ga => k_is); (case gg => k_is); (case nN => k_is); (case iC => k_is); (case tC => k_is); (case kC => k_is); (case eC => k_is); (case yC => k_is); (case hC => k_is); (case l => k_is); (case c => k_is); (case cell => k_is); (case code => k_is); (case vs => rfl); (case fi => first | rfl | decide +kernel); (case li => rfl); (case sup => ks_is); (case sV => k_is); (case mD => k_is); (case cD => k_is); (case op => k_is); (case nS => k_is); (case top => first | rfl | decide +kernel); (case aW => k_is); (case ha => k_is); (case hn => k_is); (case ht => k_is); (case hm => k_is); (case e1 => rfl); (case e2 => first | rfl | decide +kernel); (case e3 => first | rfl | decide +kernel); (case e4 => first | rfl | decide +kernel)
    refine' (fun (x_Round : DL.ErrX PySem.Challenge.pw_deedroads_k00_errors_are_apart _ mg "Round") => ?nx34)
      (DL.ErrX.of (p1 := ⟨4, 17, 4, 21⟩) (p2 := ⟨4, 23, 4, 25⟩) (q1 := ⟨5, 8, 5, 13⟩) (q2 := ⟨5, 8, 5, 15⟩) (q3 := ⟨5, 8, 5, 24⟩) (q4 := ⟨5, 25, 5, 27⟩) (q5 := ⟨5, 8, 5, 28⟩) (q6 := ⟨5, 8, 5, 28⟩) (q7 := ⟨6, 8, 6, 12⟩) (q8 := ⟨6, 8, 6, 15⟩) (q9 := ⟨6, 18, 6, 20⟩) (q10 := ⟨6, 8, 6, 20⟩) X G ?aC ?xL ?bm ?sa ?ga ?gg ?nN ?iC ?tC ?kC ?eC ?yC ?hC ?l ?c ?cell ?code ?vs ?fi ?li ?sup ?sV ?mD ?cD ?op ?nS ?top ?aW ?ha ?hn ?ht ?hm ?e1 ?e2 ?e3 ?e4);
      (case aC => k_is); (case xL => k_is); (case bm => decide); (case sa => k_is); (case ga => k_is); (case gg => k_is); (case nN => k_is); (case iC => k_is); (case tC => k_is); (case kC => k_is); (case eC => k_is); (case yC => k_is); (case hC => k_is); (case l => k_is); (case c => k_is); (case cell => k_is); (case code => k_is); (case vs => rfl); (case fi => first | rfl | decide +kernel); (case li => rfl); (case sup => ks_is); (case sV => k_is); (case mD => k_is); (case cD => k_is); (case op => k_is); (case nS => k_is); (case top => first | rfl | decide +kernel); (case aW => k_is); (case ha => k_is); (case hn => k_is); (case ht => k_is); (case hm => k_is); (case e1 => rfl); (case e2 => first | rfl | decide +kernel); (case e3 => first | rfl | decide +kernel); (case e4 => first | rfl | decide +kernel)
    refine' (fun (x_Ties : DL.ErrX PySem.Challenge.pw_deedroads_k00_errors_are_apart _ mg "Ties") => ?nx35)
      (DL.ErrX.of (p1 := ⟨4, 17, 4, 21⟩) (p2 := ⟨4, 23, 4, 25⟩) (q1 := ⟨5, 8, 5, 13⟩) (q2 := ⟨5, 8, 5, 15⟩) (q3 := ⟨5, 8, 5, 24⟩) (q4 := ⟨5, 25, 5, 27⟩) (q5 := ⟨5, 8, 5, 28⟩) (q6 := ⟨5, 8, 5, 28⟩) (q7 := ⟨6, 8, 6, 12⟩) (q8 := ⟨6, 8, 6, 15⟩) (q9 := ⟨6, 18, 6, 20⟩) (q10 := ⟨6, 8, 6, 20⟩) X G ?aC ?xL ?bm ?sa ?ga ?gg ?nN ?iC ?tC ?kC ?eC ?yC ?hC ?l ?c ?cell ?code ?vs ?fi ?li ?sup ?sV ?mD ?cD ?op ?nS ?top ?aW ?ha ?hn ?ht ?hm ?e1 ?e2 ?e3 ?e4);
      (case aC => k_is); (case xL => k_is); (case bm => decide); (case sa => k_is); (case ga => k_is); (case gg => k_is); (case nN => k_is); (case iC => k_is); (case tC => k_is); (case kC => k_is); (case eC => k_is); (case yC => k_is); (case hC => k_is); (case l => k_is); (case c => k_is); (case cell => k_is); (case code => k_is); (case vs => rfl); (case fi => first | rfl | decide +kernel); (case li => rfl); (case sup => ks_is); (case sV => k_is); (case mD => k_is); (case cD => k_is); (case op => k_is); (case nS => k_is); (case top => first | rfl | decide +kernel); (case aW => k_is); (case ha => k_is); (case hn => k_is); (case ht => k_is); (case hm => k_is); (case e1 => rfl); (case e2 => first | rfl | decide +kernel); (case e3 => first | rfl | decide +kernel); (case e4 => first | rfl | decide +kernel)
    refine' (fun (x_TooLarge : DL.ErrX PySem.Challenge.pw_deedroads_k00_errors_are_apart _ mg "TooLarge") => ?nx36)
      (DL.ErrX.of (p1 := ⟨4, 17, 4, 21⟩) (p2 := ⟨4, 23, 4, 25⟩) (q1 := ⟨5, 8, 5, 13⟩) (q2 := ⟨5, 8, 5, 15⟩) (q3 := ⟨5, 8, 5, 24⟩) (q4 := ⟨5, 25, 5, 27⟩) (q5 := ⟨5, 8, 5, 28⟩) (q6 := ⟨5, 8, 5, 28⟩) (q7 := ⟨6, 8, 6, 12⟩) (q8 := ⟨6, 8, 6, 15⟩) (q9 := ⟨6, 18, 6, 20⟩) (q10 := ⟨6, 8, 6, 20⟩) X G ?aC ?xL ?bm ?sa ?ga ?gg ?nN ?iC ?tC ?kC ?eC ?yC ?hC ?l ?c ?cell ?code ?vs ?fi ?li ?sup ?sV ?mD ?cD ?op ?nS ?top ?aW ?ha ?hn ?ht ?hm ?e1 ?e2 ?e3 ?e4);
      (case aC => k_is); (case xL => k_is); (case bm => decide); (case sa => k_is); (case ga => k_is); (case gg => k_is); (case nN => k_is); (case iC => k_is); (case tC => k_is); (case kC => k_is); (case eC => k_is); (case yC => k_is); (case hC => k_is); (case l => k_is); (case c => k_is); (case cell => k_is); (case code => k_is); (case vs => rfl); (case fi => first | rfl | decide +kernel); (case li => rfl); (case sup => ks_is); (case sV => k_is); (case mD => k_is); (case cD => k_is); (case op => k_is); (case nS => k_is); (case top => first | rfl | decide +kernel); (case aW => k_is); (case ha => k_is); (case hn => k_is); (case ht => k_is); (case hm => k_is); (case e1 => rfl); (case e2 => first | rfl | decide +kernel); (case e3 => first | rfl | decide +kernel); (case e4 => first | rfl | decide +kernel)
    refine' (fun (x_TooMany : DL.ErrX PySem.Challenge.pw_deedroads_k00_errors_are_apart _ mg "TooMany") => ?nx37)
      (DL.ErrX.of (p1 := ⟨4, 17, 4, 21⟩) (p2 := ⟨4, 23, 4, 25⟩) (q1 := ⟨5, 8, 5, 13⟩) (q2 := ⟨5, 8, 5, 15⟩) (q3 := ⟨5, 8, 5, 24⟩) (q4 := ⟨5, 25, 5, 27⟩) (q5 := ⟨5, 8, 5, 28⟩) (q6 := ⟨5, 8, 5, 28⟩) (q7 := ⟨6, 8, 6, 12⟩) (q8 := ⟨6, 8, 6, 15⟩) (q9 := ⟨6, 18, 6, 20⟩) (q10 := ⟨6, 8, 6, 20⟩) X G ?aC ?xL ?bm ?sa ?ga ?gg ?nN ?iC ?tC ?kC ?eC ?yC ?hC ?l ?c ?cell ?code ?vs ?fi ?li ?sup ?sV ?mD ?cD ?op ?nS ?top ?aW ?ha ?hn ?ht ?hm ?e1 ?e2 ?e3 ?e4);
      (case aC => k_is); (case xL => k_is); (case bm => decide); (case sa => k_is); (case ga => k_is); (case gg => k_is); (case nN => k_is); (case iC => k_is); (case tC => k_is); (case kC => k_is); (case eC => k_is); (case yC => k_is); (case hC => k_is); (case l => k_is); (case c => k_is); (case cell => k_is); (case code => k_is); (case vs => rfl); (case fi => first | rfl | decide +kernel); (case li => rfl); (case sup => ks_is); (case sV => k_is); (case mD => k_is); (case cD => k_is); (case op => k_is); (case nS => k_is); (case top => first | rfl | decide +kernel); (case aW => k_is); (case ha => k_is); (case hn => k_is); (case ht => k_is); (case hm => k_is); (case e1 => rfl); (case e2 => first | rfl | decide +kernel); (case e3 => first | rfl | decide +kernel); (case e4 => first | rfl | decide +kernel)
    refine' (fun (x_Unfit : DL.ErrX PySem.Challenge.pw_deedroads_k00_errors_are_apart _ mg "Unfit") => ?nx38)
      (DL.ErrX.of (p1 := ⟨4, 17, 4, 21⟩) (p2 := ⟨4, 23, 4, 25⟩) (q1 := ⟨5, 8, 5, 13⟩) (q2 := ⟨5, 8, 5, 15⟩) (q3 := ⟨5, 8, 5, 24⟩) (q4 := ⟨5, 25, 5, 27⟩) (q5 := ⟨5, 8, 5, 28⟩) (q6 := ⟨5, 8, 5, 28⟩) (q7 := ⟨6, 8, 6, 12⟩) (q8 := ⟨6, 8, 6, 15⟩) (q9 := ⟨6, 18, 6, 20⟩) (q10 := ⟨6, 8, 6, 20⟩) X G ?aC ?xL ?bm ?sa ?ga ?gg ?nN ?iC ?tC ?kC ?eC ?yC ?hC ?l ?c ?cell ?code ?vs ?fi ?li ?sup ?sV ?mD ?cD ?op ?nS ?top ?aW ?ha ?hn ?ht ?hm ?e1 ?e2 ?e3 ?e4);
      (case aC => k_is); (case xL => k_is); (case bm => decide); (case sa => k_is); (case ga => k_is); (case gg => k_is); (case nN => k_is); (case iC => k_is); (case tC => k_is); (case kC => k_is); (case eC => k_is); (case yC => k_is); (case hC => k_is); (case l => k_is); (case c => k_is); (case cell => k_is); (case code => k_is); (case vs => rfl); (case fi => first | rfl | decide +kernel); (case li => rfl); (case sup => ks_is); (case sV => k_is); (case mD => k_is); (case cD => k_is); (case op => k_is); (case nS => k_is); (case top => first | rfl | decide +kernel); (case aW => k_is); (case ha => k_is); (case hn => k_is); (case ht => k_is); (case hm => k_is); (case e1 => rfl); (case e2 => first | rfl | decide +kernel); (case e3 => first | rfl | decide +kernel); (case e4 => first | rfl | decide +kernel)
    refine' (fun (x_WayError : DL.ErrX PySem.Challenge.pw_deedroads_k00_errors_are_apart _ mg "WayError") => ?nx39)
      (DL.ErrX.of (p1 := ⟨4, 17, 4, 21⟩) (p2 := ⟨4, 23, 4, 25⟩) (q1 := ⟨5, 8, 5, 13⟩) (q2 := ⟨5, 8, 5, 15⟩) (q3 := ⟨5, 8, 5, 24⟩) (q4 := ⟨5, 25, 5, 27⟩) (q5 := ⟨5, 8, 5, 28⟩) (q6 := ⟨5, 8, 5, 28⟩) (q7 := ⟨6, 8, 6, 12⟩) (q8 := ⟨6, 8, 6, 15⟩) (q9 := ⟨6, 18, 6, 20⟩) (q10 := ⟨6, 8, 6, 20⟩) X G ?aC ?xL ?bm ?sa ?ga ?gg ?nN ?iC ?tC ?kC ?eC ?yC ?hC ?l ?c ?cell ?code ?vs ?fi ?li ?sup ?sV ?mD ?cD ?op ?nS ?top ?aW ?ha ?hn ?ht ?hm ?e1 ?e2 ?e3 ?e4);
      (case aC => k_is); (case xL => k_is); (case bm => decide); (case sa => k_is); (case ga => k_is); (case gg => k_is); (case nN => k_is); (case iC => k_is); (case tC => k_is); (case kC => k_is); (case eC => k_is); (case yC => k_is); (case hC => k_is); (case l => k_is); (case c => k_is); (case cell => k_is); (case code => k_is); (case vs => rfl); (case fi => first | rfl | decide +kernel); (case li => rfl); (case sup => ks_is); (case sV => k_is); (case mD => k_is); (case cD => k_is); (case op => k_is); (case nS => k_is); (case top => first | rfl | decide +kernel); (case aW => k_is); (case ha => k_is); (case hn => k_is); (case ht => k_is); (case hm => k_is); (case e1 => rfl); (case e2 => first | rfl | decide +kernel); (case e3 => first | rfl | decide +kernel); (case e4 => first | rfl | decide +kernel)
    refine' (fun (x_WrongSize : DL.ErrX PySem.Challenge.pw_deedroads_k00_errors_are_apart _ mg "WrongSize") => ?nx40)
      (DL.ErrX.of (p1 := ⟨4, 17, 4, 21⟩) (p2 := ⟨4, 23, 4, 25⟩) (q1 := ⟨5, 8, 5, 13⟩) (q2 := ⟨5, 8, 5, 15⟩) (q3 := ⟨5, 8, 5, 24⟩) (q4 := ⟨5, 25, 5, 27⟩) (q5 := ⟨5, 8, 5, 28⟩) (q6 := ⟨5, 8, 5, 28⟩) (q7 := ⟨6, 8, 6, 12⟩) (q8 := ⟨6, 8, 6, 15⟩) (q9 := ⟨6, 18, 6, 20⟩) (q10 := ⟨6, 8, 6, 20⟩) X G ?aC ?xL ?bm ?sa ?ga ?gg ?nN ?iC ?tC ?kC ?eC ?yC ?hC ?l ?c ?cell ?code ?vs ?fi ?li ?sup ?sV ?mD ?cD ?op ?nS ?top ?aW ?ha ?hn ?ht ?hm ?e1 ?e2 ?e3 ?e4);
      (case aC => k_is); (case xL => k_is); (case bm => decide); (case sa => k_is); (case ga => k_is); (case gg => k_is); (case nN => k_is); (case iC => k_is); (case tC => k_is); (case kC => k_is); (case eC => k_is); (case yC => k_is); (case hC => k_is); (case l => k_is); (case c => k_is); (case cell => k_is); (case code => k_is); (case vs => rfl); (case fi => first | rfl | decide +kernel); (case li => rfl); (case sup => ks_is); (case sV => k_is); (case mD => k_is); (case cD => k_is); (case op => k_is); (case nS => k_is); (case top => first | rfl | decide +kernel); (case aW => k_is); (case ha => k_is); (case hn => k_is); (case ht => k_is); (case hm => k_is); (case e1 => rfl); (case e2 => first | rfl | decide +kernel); (case e3 => first | rfl | decide +kernel); (case e4 => first | rfl | decide +kernel)
    refine' (fun (k_MOST_VARIABLES : DL.GInt mg "MOST_VARIABLES" 12) => ?nx41) (DL.GInt.of X G ?a); (case a => k_is)
    refine' (fun (A : DL.AllX PySem.Challenge.pw_deedroads_k00_errors_are_apart _ mg DL.errNames) => ?nx42) (DL.AllX.cons x_BadAnswer (DL.AllX.cons x_BadArrow (DL.AllX.cons x_BadCauses (DL.AllX.cons x_BadDeed (DL.AllX.cons x_BadFinding (DL.AllX.cons x_BadKinds (DL.AllX.cons x_BadLaw (DL.AllX.cons x_BadMarks (DL.AllX.cons x_BadRecord (DL.AllX.cons x_BadShares (DL.AllX.cons x_BadStep (DL.AllX.cons x_BadTable (DL.AllX.cons x_BadTie (DL.AllX.cons x_BadUnseen (DL.AllX.cons x_BadValues (DL.AllX.cons x_BadWeight (DL.AllX.cons x_NoVariable (DL.AllX.cons x_NotAChild (DL.AllX.cons x_NotASet (DL.AllX.cons x_NothingToUndo (DL.AllX.cons x_OutOfRange (DL.AllX.cons x_Overlap (DL.AllX.cons x_Round (DL.AllX.cons x_Ties (DL.AllX.cons x_TooLarge (DL.AllX.cons x_TooMany (DL.AllX.cons x_Unfit (DL.AllX.cons x_WayError (DL.AllX.cons x_WrongSize DL.AllX.nil)))))))))))))))))))))))))))))
    have c_BadAnswer : DL.WayAt PySem.Challenge.pw_deedroads_k00_errors_are_apart _ mg "BadAnswer" := x_BadAnswer.way
    have c_BadArrow : DL.WayAt PySem.Challenge.pw_deedroads_k00_errors_are_apart _ mg "BadArrow" := x_BadArrow.way
    have c_BadCauses : DL.WayAt PySem.Challenge.pw_deedroads_k00_errors_are_apart _ mg "BadCauses" := x_BadCauses.way
    have c_BadDeed : DL.WayAt PySem.Challenge.pw_deedroads_k00_errors_are_apart _ mg "BadDeed" := x_BadDeed.way
    have c_BadFinding : DL.WayAt PySem.Challenge.pw_deedroads_k00_errors_are_apart _ mg "BadFinding" := x_BadFinding.way
    have c_BadKinds : DL.WayAt PySem.Challenge.pw_deedroads_k00_errors_are_apart _ mg "BadKinds" := x_BadKinds.way
    have c_BadLaw : DL.WayAt PySem.Challenge.pw_deedroads_k00_errors_are_apart _ mg "BadLaw" := x_BadLaw.way
    have c_BadMarks : DL.WayAt PySem.Challenge.pw_deedroads_k00_errors_are_apart _ mg "BadMarks" := x_BadMarks.way
    have c_BadRecord : DL.WayAt PySem.Challenge.pw_deedroads_k00_errors_are_apart _ mg "BadRecord" := x_BadRecord.way
    have c_BadShares : DL.WayAt PySem.Challenge.pw_deedroads_k00_errors_are_apart _ mg "BadShares" := x_BadShares.way
    have c_BadStep : DL.WayAt PySem.Challenge.pw_deedroads_k00_errors_are_apart _ mg "BadStep" := x_BadStep.way
    have c_BadTable : DL.WayAt PySem.Challenge.pw_deedroads_k00_errors_are_apart _ mg "BadTable" := x_BadTable.way
    have c_BadTie : DL.WayAt PySem.Challenge.pw_deedroads_k00_errors_are_apart _ mg "BadTie" := x_BadTie.way
    have c_BadUnseen : DL.WayAt PySem.Challenge.pw_deedroads_k00_errors_are_apart _ mg "BadUnseen" := x_BadUnseen.way
    have c_BadValues : DL.WayAt PySem.Challenge.pw_deedroads_k00_errors_are_apart _ mg "BadValues" := x_BadValues.way
    have c_BadWeight : DL.WayAt PySem.Challenge.pw_deedroads_k00_errors_are_apart _ mg "BadWeight" := x_BadWeight.way
    have c_NoVariable : DL.WayAt PySem.Challenge.pw_deedroads_k00_errors_are_apart _ mg "NoVariable" := x_NoVariable.way
    have c_NotAChild : DL.WayAt PySem.Challenge.pw_deedroads_k00_errors_are_apart _ mg "NotAChild" := x_NotAChild.way
    have c_NotASet : DL.WayAt PySem.Challenge.pw_deedroads_k00_errors_are_apart _ mg "NotASet" := x_NotASet.way
    have c_NothingToUndo : DL.WayAt PySem.Challenge.pw_deedroads_k00_errors_are_apart _ mg "NothingToUndo" := x_NothingToUndo.way
    have c_OutOfRange : DL.WayAt PySem.Challenge.pw_deedroads_k00_errors_are_apart _ mg "OutOfRange" := x_OutOfRange.way
    have c_Overlap : DL.WayAt PySem.Challenge.pw_deedroads_k00_errors_are_apart _ mg "Overlap" := x_Overlap.way
    have c_Round : DL.WayAt PySem.Challenge.pw_deedroads_k00_errors_are_apart _ mg "Round" := x_Round.way
    have c_Ties : DL.WayAt PySem.Challenge.pw_deedroads_k00_errors_are_apart _ mg "Ties" := x_Ties.way
    have c_TooLarge : DL.WayAt PySem.Challenge.pw_deedroads_k00_errors_are_apart _ mg "TooLarge" := x_TooLarge.way
    have c_TooMany : DL.WayAt PySem.Challenge.pw_deedroads_k00_errors_are_apart _ mg "TooMany" := x_TooMany.way
    have c_Unfit : DL.WayAt PySem.Challenge.pw_deedroads_k00_errors_are_apart _ mg "Unfit" := x_Unfit.way
    have c_WayError : DL.WayAt PySem.Challenge.pw_deedroads_k00_errors_are_apart _ mg "WayError" := x_WayError.way
    have c_WrongSize : DL.WayAt PySem.Challenge.pw_deedroads_k00_errors_are_apart _ mg "WrongSize" := x_WrongSize.way
    refine' (fun (T : DL.Txt PySem.Challenge.pw_deedroads_k00_errors_are_apart _ mg) => ?nx43) { d_l_draws := d_l_draws, d_l_kinds := d_l_kinds, d_l_made := d_l_made, d_l_mix := d_l_mix, d_first_bad := d_first_bad, d_reached := d_reached, d_rest_of := d_rest_of, d_on_rounds := d_on_rounds, d_check_drawing := d_check_drawing, d_l_raised := d_l_raised, d_law := d_law, n_ValueError := by (refine PySem.W.mg_none_of X G ?_; k_is), n_abs := by (refine PySem.W.mg_none_of X G ?_; k_is), n_bool := by (refine PySem.W.mg_none_of X G ?_; k_is), n_enumerate := by (refine PySem.W.mg_none_of X G ?_; k_is), n_int := by (refine PySem.W.mg_none_of X G ?_; k_is), n_isinstance := by (refine PySem.W.mg_none_of X G ?_; k_is), n_len := by (refine PySem.W.mg_none_of X G ?_; k_is), n_min := by (refine PySem.W.mg_none_of X G ?_; k_is), n_range := by (refine PySem.W.mg_none_of X G ?_; k_is), c_BadAnswer := c_BadAnswer, c_BadArrow := c_BadArrow, c_BadCauses := c_BadCauses, c_BadDeed := c_BadDeed, c_BadFinding := c_BadFinding, c_BadKinds := c_BadKinds, c_BadLaw := c_BadLaw, c_BadMarks := c_BadMarks, c_BadRecord := c_BadRecord, c_BadShares := c_BadShares, c_BadStep := c_BadStep, c_BadTable := c_BadTable, c_BadTie := c_BadTie, c_BadUnseen := c_BadUnseen, c_BadValues := c_BadValues, c_BadWeight := c_BadWeight, c_NoVariable := c_NoVariable, c_NotAChild := c_NotAChild, c_NotASet := c_NotASet, c_NothingToUndo := c_NothingToUndo, c_OutOfRange := c_OutOfRange, c_Overlap := c_Overlap, c_Round := c_Round, c_Ties := c_Ties, c_TooLarge := c_TooLarge, c_TooMany := c_TooMany, c_Unfit := c_Unfit, c_WayError := c_WayError, c_WrongSize := c_WrongSize, k_MOST_VARIABLES := k_MOST_VARIABLES, m_BadAnswer := x_BadAnswer.at, m_BadArrow := x_BadArrow.at, m_BadCauses := x_BadCauses.at, m_BadDeed := x_BadDeed.at, m_BadFinding := x_BadFinding.at, m_BadKinds := x_BadKinds.at, m_BadLaw := x_BadLaw.at, m_BadMarks := x_BadMarks.at, m_BadRecord := x_BadRecord.at, m_BadShares := x_BadShares.at, m_BadStep := x_BadStep.at, m_BadTable := x_BadTable.at, m_BadTie := x_BadTie.at, m_BadUnseen := x_BadUnseen.at, m_BadValues := x_BadValues.at, m_BadWeight := x_BadWeight.at, m_NoVariable := x_NoVariable.at, m_NotAChild := x_NotAChild.at, m_NotASet := x_NotASet.at, m_NothingToUndo := x_NothingToUndo.at, m_OutOfRange := x_OutOfRange.at, m_Overlap := x_Overlap.at, m_Round := x_Round.at, m_Ties := x_Ties.at, m_TooLarge := x_TooLarge.at, m_TooMany := x_TooMany.at, m_Unfit := x_Unfit.at, m_WayError := x_WayError.at, m_WrongSize := x_WrongSize.at, e_all := A.all, is_BadAnswer := A.is (by decide +kernel) (by decide +kernel) (by decide +kernel), is_BadArrow := A.is (by decide +kernel) (by decide +kernel) (by decide +kernel), is_BadCauses := A.is (by decide +kernel) (by decide +kernel) (by decide +kernel), is_BadDeed := A.is (by decide +kernel) (by decide +kernel) (by decide +kernel), is_BadFinding := A.is (by decide +kernel) (by decide +kernel) (by decide +kernel), is_BadKinds := A.is (by decide +kernel) (by decide +kernel) (by decide +kernel), is_BadLaw := A.is (by decide +kernel) (by decide +kernel) (by decide +kernel), is_BadMarks := A.is (by decide +kernel) (by decide +kernel) (by decide +kernel), is_BadRecord := A.is (by decide +kernel) (by decide +kernel) (by decide +kernel), is_BadShares := A.is (by decide +kernel) (by decide +kernel) (by decide +kernel), is_BadStep := A.is (by decide +kernel) (by decide +kernel) (by decide +kernel), is_BadTable := A.is (by decide +kernel) (by decide +kernel) (by decide +kernel), is_BadTie := A.is (by decide +kernel) (by decide +kernel) (by decide +kernel), is_BadUnseen := A.is (by decide +kernel) (by decide +kernel) (by decide +kernel), is_BadValues := A.is (by decide +kernel) (by decide +kernel) (by decide +kernel), is_BadWeight := A.is (by decide +kernel) (by decide +kernel) (by decide +kernel), is_NoVariable := A.is (by decide +kernel) (by decide +kernel) (by decide +kernel), is_NotAChild := A.is (by decide +kernel) (by decide +kernel) (by decide +kernel), is_NotASet := A.is (by decide +kernel) (by decide +kernel) (by decide +kernel), is_NothingToUndo := A.is (by decide +kernel) (by decide +kernel) (by decide +kernel), is_OutOfRange := A.is (by decide +kernel) (by decide +kernel) (by decide +kernel), is_Overlap := A.is (by decide +kernel) (by decide +kernel) (by decide +kernel), is_Round := A.is (by decide +kernel) (by decide +kernel) (by decide +kernel), is_Ties := A.is (by decide +kernel) (by decide +kernel) (by decide +kernel), is_TooLarge := A.is (by decide +kernel) (by decide +kernel) (by decide +kernel), is_TooMany := A.is (by decide +kernel) (by decide +kernel) (by decide +kernel), is_Unfit := A.is (by decide +kernel) (by decide +kernel) (by decide +kernel), is_ValueError := A.value, is_WayError := A.base (by decide +kernel), is_WrongSize := A.is (by decide +kernel) (by decide +kernel) (by decide +kernel), exm_WayError := A.exm (by decide +kernel) }
    refine' DL.end_law T hmg X G ?a ?l ?c ?k; (case a => k_is); (case l => k_is); (case c => k_is); (case k => k_is)

