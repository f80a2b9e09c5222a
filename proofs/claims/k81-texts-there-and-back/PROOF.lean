import PyProof.Rows.All
import Wide.All
import OpenK.AllK
import Wide.FinOn
import HandS.ForMost
import HandS.ForExc
import HandS.Wide
import KE.DataEq
import KE.DataCmp
import KE.DataFind
import HandS.TupLe
import HandS.IsInst
import HandS.CallSlots
import HandS.ExcIs
import HandS.Defaults
import HandS.HeadEnd
import HandS.Head0
import HandS.Head1
import HandS.Head2
import HandS.HeadHook1
import HandS.HeadHook2
import KE.KStateDown
import HandS.Codes
import HandS.Conv
import HandS.Zip
import HandS.TryOnly
import HandS.Dict
import HandS.DictComp
import HandS.More
import KE.SortData
import HandS.Text
import HandS.StrMore
import HandS.MapJoin
import HandS.DeepEq
import PyProof.NeKinds
import PyProof.MeetsIn
import HandS.EndBits
import PySem.Challenge.RW_roadshare_k81_texts_there_and_back
set_option Elab.async false
set_option linter.all false
set_option maxRecDepth 100000
set_option maxHeartbeats 0
namespace Pi
open PySem PySem.Spec PyProof.Rows L2
/-! ### data trees, results, environments -/
inductive D where
  | non | bl (b : Bool) | int (i : Int) | str (x : Str)
  | tup (l : List D) | lst (l : List D) | dct (ks : List Key) (vs : List D)
  | obj (c : Nat) (fs : List D) | exc (c : Nat) | scr (l : List Int)
inductive Er where
  | raise (k : Nat) | stuck
abbrev Rs (α : Type) := Except Er α
def bnd {α β : Type} : Rs α → (α → Rs β) → Rs β
  | .ok a, f => f a
  | .error e, _ => .error e
@[simp] theorem bnd_ok {α β : Type} (a : α) (f : α → Rs β) : bnd (.ok a) f = f a := rfl
@[simp] theorem bnd_err {α β : Type} (e : Er) (f : α → Rs β) : bnd (.error e) f = .error e := rfl
abbrev En := List (Option D)
abbrev EvE := En → Rs D
inductive Fl where
  | nx (en : En) | rt (d : D) | ct (en : En)
abbrev EvS := En → Rs Fl
/-- what is known of a slot: nothing, a shared value, a value of its own (dp: what lies within is new), a method's self, the exception that a suite holds -/
inductive SF where
  | n | s (dp : Bool) | o (dp : Bool) | z | x (a : Addr)
  deriving DecidableEq
/-- what is known of a value: shared, new and held by nobody, borrowed from a slot that owns it -/
inductive VF where
  | sh (dp : Bool) | uq (dp : Bool) | bo (dp : Bool)
  deriving DecidableEq
/-- the facts of the text: the written part, the classes' addresses and fields, the exceptions' classes -/
structure Gb where
  P : Program
  w : World
  K : PySem.W.Frag
  mg : Str → Option Value
  base : Heap
  ca : Nat → Addr
  cf : Nat → List Str
  xa : Nat → Addr
  ga : Str → Addr
/-- a list that nobody writes: locked, or of the text -/
def SqF (K : PySem.W.Frag) (H : Hp) (a : Addr) (xs : List V) : Prop := (∃ o, H a = some (.frz o (.lst xs))) ∨
  ∃ (o : Obj) (its : Array Value) (n : Nat), K.lookup a = some o ∧ o.cls = .type "list" ∧ o.dict = none ∧ o.data = .seq its n ∧ its.size ≤ sizeLine ∧ Vals xs its.toList
theorem SqF.sq {K : PySem.W.Frag} {H : Hp} {a : Addr} {xs : List V} (h : SqF K H a xs) : SqL K H a xs := by
  rcases h with ⟨o, h⟩ | h
  · exact .inl (.inr ⟨o, h⟩)
  · exact .inr h
section
variable (G : Gb) (A : Addr → Prop) (H : Hp)
mutual
/-- the value v stands for the datum; what may be written within is at A -/
def R : D → V → Prop
  | .non, v => v = .non
  | .bl b, v => v = .bl b
  | .int i, v => v = .int i
  | .str x, v => v = .str x
  | .tup l, v => ∃ a xs, v = .ref a ∧ SqT G.K H a xs ∧ RL l xs
  | .lst l, v => ∃ a xs, v = .ref a ∧ A a ∧ H a = some (.lst xs) ∧ RL l xs
  | .dct ks l, v => ∃ a kvs, v = .ref a ∧ A a ∧ Rd H a (.dK kvs) ∧ kvs.map (·.1) = ks ∧ RL l (kvs.map (·.2))
  | .obj c l, v => ∃ a dx fs, v = .ref a ∧ A a ∧ H a = some (.ins (G.ca c) dx fs) ∧ fs.map (·.1) = (G.cf c).take l.length ∧ RL l (fs.map (·.2))
  | .exc _, _ => False
  | .scr l, v => ∃ a, v = .ref a ∧ SqF G.K H a (l.map V.int)
def RL : List D → List V → Prop
  | [], xs => xs = []
  | d :: l, xs => ∃ x r, xs = x :: r ∧ R d x ∧ RL l r
end
end
section
variable {G : Gb} {A A' : Addr → Prop} {H H' : Hp}
theorem RL.len : ∀ {l : List D} {xs : List V}, RL G A H l xs → xs.length = l.length
  | [], _, h => by rw [h]; rfl
  | _ :: l, _, ⟨_, r, e, _, h⟩ => by rw [e]; exact congrArg Nat.succ (RL.len (l := l) h)
theorem RL.cons {d : D} {l : List D} {x : V} {r : List V} (h : R G A H d x) (t : RL G A H l r) : RL G A H (d :: l) (x :: r) := ⟨x, r, rfl, h, t⟩
theorem RL.nil : RL G A H [] [] := rfl
theorem RL.app : ∀ {l m : List D} {xs ys : List V}, RL G A H l xs → RL G A H m ys → RL G A H (l ++ m) (xs ++ ys)
  | [], _, _, _, h, t => by rw [show _ = [] from h]; exact t
  | _ :: l, _, _, _, ⟨x, r, e, h1, h⟩, t => by rw [e]; exact ⟨x, _, rfl, h1, RL.app (l := l) h t⟩
theorem RL.get : ∀ {l : List D} {xs : List V} {i : Nat} {d : D}, RL G A H l xs → l[i]? = some d → ∃ x, xs[i]? = some x ∧ R G A H d x
  | [], _, _, _, _, e => by simp at e
  | a :: l, _, 0, d, ⟨x, r, e, h1, _⟩, e1 => by simp at e1; subst e1; exact ⟨x, by rw [e]; rfl, h1⟩
  | a :: l, _, i + 1, d, ⟨x, r, e, _, h⟩, e1 => by rw [e]; exact RL.get (l := l) (i := i) h e1
theorem RL.get' : ∀ {l : List D} {xs : List V} {i : Nat} {x : V}, RL G A H l xs → xs[i]? = some x → ∃ d, l[i]? = some d ∧ R G A H d x
  | [], _, _, _, h, e => by rw [show _ = [] from h] at e; simp at e
  | a :: l, _, 0, d, ⟨x, r, e, h1, _⟩, e1 => by rw [e] at e1; simp at e1; subst e1; exact ⟨a, rfl, h1⟩
  | a :: l, _, i + 1, d, ⟨x, r, e, _, h⟩, e1 => by rw [e] at e1; exact RL.get' (l := l) (i := i) h e1
theorem RL.set : ∀ {l : List D} {xs : List V} (i : Nat) {d : D} {x : V}, RL G A H l xs → R G A H d x → RL G A H (l.set i d) (xs.set i x)
  | [], _, _, _, _, h, _ => by rw [show _ = [] from h]; rfl
  | a :: l, _, 0, d, y, ⟨x, r, e, h1, h⟩, hd => by rw [e]; exact ⟨y, r, rfl, hd, h⟩
  | a :: l, _, i + 1, d, y, ⟨x, r, e, h1, h⟩, hd => by rw [e]; exact ⟨x, _, rfl, h1, RL.set (l := l) i h hd⟩
theorem RL.take : ∀ {l : List D} {xs : List V} (n : Nat), RL G A H l xs → RL G A H (l.take n) (xs.take n)
  | _, _, 0, _ => rfl
  | [], _, n + 1, h => by rw [show _ = [] from h]; rfl
  | a :: l, _, n + 1, ⟨x, r, e, h1, h⟩ => by rw [e]; exact ⟨x, _, rfl, h1, RL.take (l := l) n h⟩
theorem RL.drop : ∀ {l : List D} {xs : List V} (n : Nat), RL G A H l xs → RL G A H (l.drop n) (xs.drop n)
  | _, _, 0, h => h
  | [], _, n + 1, h => by rw [show _ = [] from h]; rfl
  | a :: l, _, n + 1, ⟨x, r, e, h1, h⟩ => by rw [e]; exact RL.drop (l := l) n h
theorem RL.rev {l : List D} {xs : List V} (h : RL G A H l xs) : RL G A H l.reverse xs.reverse := by
  induction l generalizing xs with
  | nil => rw [show xs = [] from h]; rfl
  | cons a l ih => obtain ⟨x, r, e, h1, h2⟩ := h; rw [e, List.reverse_cons, List.reverse_cons]; exact RL.app (ih h2) (RL.cons h1 RL.nil)
/-- what is asked of another heap and another «may be» so that all still stands -/
structure Up (K : PySem.W.Frag) (A A' : Addr → Prop) (H H' : Hp) : Prop where
  lst : ∀ a xs, A a → H a = some (.lst xs) → A' a ∧ H' a = some (.lst xs)
  dct : ∀ a xs, A a → Rd H a (.dK xs) → A' a ∧ Rd H' a (.dK xs)
  obj : ∀ a C dx fs, A a → H a = some (.ins C dx fs) → A' a ∧ H' a = some (.ins C dx fs)
  tup : ∀ a xs, Rd H a (.tup xs) → Rd H' a (.tup xs)
  scr : ∀ a xs, SqF K H a xs → SqF K H' a xs
theorem Up.seqT {K : PySem.W.Frag} (u : Up K A A' H H') {a : Addr} {xs : List V} (h : SqT K H a xs) : SqT K H' a xs := by
  rcases h with h | h
  · exact .inl (u.tup _ _ h)
  · exact .inr h
mutual
theorem R.up (u : Up G.K A A' H H') : ∀ (d : D) {v : V}, R G A H d v → R G A' H' d v
  | .non, _, h => h
  | .bl _, _, h => h
  | .int _, _, h => h
  | .str _, _, h => h
  | .tup l, _, ⟨a, xs, e, h1, h2⟩ => ⟨a, xs, e, u.seqT h1, RL.up u l h2⟩
  | .lst l, _, ⟨a, xs, e, h0, h1, h2⟩ => ⟨a, xs, e, (u.lst _ _ h0 h1).1, (u.lst _ _ h0 h1).2, RL.up u l h2⟩
  | .dct ks l, _, ⟨a, kvs, e, h1, h2, h3, h4⟩ => ⟨a, kvs, e, (u.dct _ _ h1 h2).1, (u.dct _ _ h1 h2).2, h3, RL.up u l h4⟩
  | .obj c l, _, ⟨a, dx, fs, e, h1, h2, h3, h4⟩ => ⟨a, dx, fs, e, (u.obj _ _ _ _ h1 h2).1, (u.obj _ _ _ _ h1 h2).2, h3, RL.up u l h4⟩
  | .exc _, _, h => h.elim
  | .scr l, _, ⟨a, e, h⟩ => ⟨a, e, u.scr _ _ h⟩
theorem RL.up (u : Up G.K A A' H H') : ∀ (l : List D) {xs : List V}, RL G A H l xs → RL G A' H' l xs
  | [], _, h => h
  | d :: l, _, ⟨x, r, e, h1, h2⟩ => ⟨x, r, e, R.up u d h1, RL.up u l h2⟩
end
/-- no list, dict or object lies within -/
def flat : D → Bool
  | .non | .bl _ | .int _ | .str _ => true
  | .tup l => flatL l
  | _ => false
where flatL : List D → Bool
  | [] => true
  | d :: l => flat d && flatL l
mutual
theorem R.flat : ∀ (d : D) {v : V}, flat d = true → R G A H d v → R G A' H d v
  | .non, _, _, h => h
  | .bl _, _, _, h => h
  | .int _, _, _, h => h
  | .str _, _, _, h => h
  | .tup l, _, f, ⟨a, xs, e, h1, h2⟩ => ⟨a, xs, e, h1, RL.flat l (by simpa [Pi.flat] using f) h2⟩
theorem RL.flat : ∀ (l : List D) {xs : List V}, flat.flatL l = true → RL G A H l xs → RL G A' H l xs
  | [], _, _, h => h
  | d :: l, _, f, ⟨x, r, e, h1, h2⟩ => by
    have f' : Pi.flat d = true ∧ flat.flatL l = true := by simpa [flat.flatL] using f
    exact ⟨x, r, e, R.flat d f'.1 h1, RL.flat l f'.2 h2⟩
end
end
end Pi
namespace Pi
open PySem PySem.Spec PyProof.Rows L2
/-! ### frames: the heap at the entry, what the arguments may reach, what may be changed -/
structure Fr where
  H0 : Hp
  A0 : Addr → Prop
  S : Addr → Prop
  /-- what stands as it is (through a loop) -/
  L : Addr → Option HO
def Fr.Sm (c : Fr) (H : Hp) : Prop := ∀ b o, ¬ c.S b → c.H0 b = some o → H b = some o
def Av (c : Fr) (O : Addr → Prop) (dp : Bool) (a : Addr) : Prop := ¬ O a ∧ (dp = true → c.H0 a = none) ∧ (c.H0 a = none ∨ c.A0 a)
theorem av_sub {c : Fr} {O O' : Addr → Prop} {dp : Bool} {a : Addr} (h : Av c O dp a) (s : ∀ b, O' b → O b) : Av c O' dp a := ⟨fun z => h.1 (s a z), h.2⟩
theorem Av.undp {c : Fr} {O : Addr → Prop} {dp : Bool} {a : Addr} (h : Av c O dp a) : Av c O false a := ⟨h.1, fun z => by simp at z, h.2.2⟩
theorem Av.dpand {c : Fr} {O : Addr → Prop} {dp : Bool} {a : Addr} (p : Bool) (h : Av c O dp a) : Av c O (dp && p) a := ⟨h.1, fun z => h.2.1 (by revert z; cases dp <;> simp), h.2.2⟩
theorem Av.dpand' {c : Fr} {O : Addr → Prop} {dp : Bool} {a : Addr} (p : Bool) (h : Av c O dp a) : Av c O (p && dp) a := ⟨h.1, fun z => h.2.1 (by revert z; cases p <;> simp), h.2.2⟩
theorem rdS {H H' : Hp} {a : Addr} {u : HO} (h : Rd H a u) (s : Same H H') : Rd H' a u := by
  rcases h with h | ⟨o, h⟩
  · exact .inl (s _ _ h)
  · exact .inr ⟨o, s _ _ h⟩
theorem sfS {K : PySem.W.Frag} {H H' : Hp} {a : Addr} {xs : List V} (h : SqF K H a xs) (s : Same H H') : SqF K H' a xs := h.imp (fun ⟨o, h⟩ => ⟨o, s _ _ h⟩) id
theorem Up.same {K : PySem.W.Frag} {A A' : Addr → Prop} {H H' : Hp} (s : Same H H') (m : ∀ a, A a → A' a) : Up K A A' H H' :=
  ⟨fun a _ h r => ⟨m a h, s _ _ r⟩, fun a _ h r => ⟨m a h, rdS r s⟩, fun a _ _ _ h r => ⟨m a h, s _ _ r⟩, fun _ _ r => rdS r s, fun _ _ r => sfS r s⟩
/-- an object that nobody writes and nobody owns -/
def Im : HO → Prop
  | .tup _ => True
  | .frz _ (.lst _) => True
  | .frz _ (.tup _) => True
  | _ => False
/-- an object that is written -/
def Wr : HO → Prop
  | .lst _ => True
  | .dK _ => True
  | .ins _ _ _ => True
  | _ => False
theorem rd_ne {H : Hp} {a p : Addr} {u o o' : HO} (r : Rd H a u) (hp : H p = some o) (w : Wr o) (ne : a ≠ p) : Rd (upd H p o') a u := by
  rcases r with r | ⟨q, r⟩
  · exact .inl (by rw [upd_ne ne]; exact r)
  · exact .inr ⟨q, by rw [upd_ne ne]; exact r⟩
theorem Up.write {K : PySem.W.Frag} {A : Addr → Prop} {H : Hp} {p : Addr} {o o' : HO} (hp : H p = some o) (w : Wr o) (n : ¬ A p) : Up K A A H (upd H p o') := by
  have ne : ∀ a, A a → a ≠ p := fun a h e => n (by rw [← e]; exact h)
  refine ⟨fun a xs h r => ⟨h, by rw [upd_ne (ne a h)]; exact r⟩, fun a xs h r => ⟨h, rd_ne r hp w (ne a h)⟩, fun a C dx fs h r => ⟨h, ?_⟩, fun a xs r => rd_ne r hp w ?_, fun a xs r => r.imp (fun ⟨q, r⟩ => ⟨q, ?_⟩) id⟩
  · rw [upd_ne (ne a h)]
    exact r
  · rintro rfl
    rcases r with r | ⟨q, r⟩
    · rw [hp] at r; cases r; exact w
    · rw [hp] at r; cases r; exact w
  · rw [upd_ne]
    · exact r
    · rintro rfl
      rw [hp] at r; cases r; exact w
theorem same_new {H : Hp} {p : Addr} {o : HO} (h : H p = none) : Same H (upd H p o) := fun b x e => by
  rw [upd_ne (ne_of_none e h)]
  exact e
section
variable (G : Gb) (A : Addr → Prop) (H : Hp)
/-- the value's own object is at os -/
def RO : D → V → List Addr → Prop
  | .lst l, v, os => ∃ a xs, v = .ref a ∧ os = [a] ∧ H a = some (.lst xs) ∧ RL G A H l xs
  | .dct ks l, v, os => ∃ a kvs, v = .ref a ∧ os = [a] ∧ H a = some (.dK kvs) ∧ kvs.map (·.1) = ks ∧ RL G A H l (kvs.map (·.2))
  | .obj c l, v, os => ∃ a dx fs, v = .ref a ∧ os = [a] ∧ H a = some (.ins (G.ca c) dx fs) ∧ fs.map (·.1) = (G.cf c).take l.length ∧ RL G A H l (fs.map (·.2))
  | .tup l, v, os => os = [] ∧ R G A H (.tup l) v
  | .non, v, os => os = [] ∧ v = .non
  | .bl b, v, os => os = [] ∧ v = .bl b
  | .int i, v, os => os = [] ∧ v = .int i
  | .str x, v, os => os = [] ∧ v = .str x
  | .exc _, _, _ => False
  | .scr l, v, os => os = [] ∧ R G A H (.scr l) v
/-- the value is read; its own object may stand anywhere -/
def RB : D → V → Prop
  | .lst l, v => ∃ a xs, v = .ref a ∧ H a = some (.lst xs) ∧ RL G A H l xs
  | .scr l, v => R G A H (.scr l) v
  | .dct ks l, v => ∃ a kvs, v = .ref a ∧ Rd H a (.dK kvs) ∧ kvs.map (·.1) = ks ∧ RL G A H l (kvs.map (·.2))
  | .obj c l, v => ∃ a dx fs, v = .ref a ∧ H a = some (.ins (G.ca c) dx fs) ∧ fs.map (·.1) = (G.cf c).take l.length ∧ RL G A H l (fs.map (·.2))
  | .tup l, v => R G A H (.tup l) v
  | .non, v => v = .non
  | .bl b, v => v = .bl b
  | .int i, v => v = .int i
  | .str x, v => v = .str x
  | .exc _, _ => False
end
section
variable {G : Gb} {A A' : Addr → Prop} {H H' : Hp}
theorem R.b : ∀ {d : D} {v : V}, R G A H d v → RB G A H d v
  | .non, _, h => h
  | .bl _, _, h => h
  | .int _, _, h => h
  | .str _, _, h => h
  | .tup _, _, h => h
  | .lst _, _, ⟨a, xs, e, _, h1, h2⟩ => ⟨a, xs, e, h1, h2⟩
  | .scr _, _, h => h
  | .dct _ _, _, ⟨a, kvs, e, _, h2, h3, h4⟩ => ⟨a, kvs, e, h2, h3, h4⟩
  | .obj _ _, _, ⟨a, dx, fs, e, _, h2, h3, h4⟩ => ⟨a, dx, fs, e, h2, h3, h4⟩
  | .exc _, _, h => h.elim
theorem RO.b : ∀ {d : D} {v : V} {os : List Addr}, RO G A H d v os → RB G A H d v
  | .non, _, _, h => h.2
  | .bl _, _, _, h => h.2
  | .int _, _, _, h => h.2
  | .str _, _, _, h => h.2
  | .tup _, _, _, h => h.2
  | .lst _, _, _, ⟨a, xs, e, _, h1, h2⟩ => ⟨a, xs, e, h1, h2⟩
  | .scr _, _, _, h => h.2
  | .dct _ _, _, _, ⟨a, kvs, e, _, h2, h3, h4⟩ => ⟨a, kvs, e, .inl h2, h3, h4⟩
  | .obj _ _, _, _, ⟨a, dx, fs, e, _, h2, h3, h4⟩ => ⟨a, dx, fs, e, h2, h3, h4⟩
  | .exc _, _, _, h => h.elim
/-- owned, then shared -/
theorem RO.r : ∀ {d : D} {v : V} {os : List Addr}, RO G A H d v os → (∀ a, A a → A' a) → (∀ a, a ∈ os → A' a) → R G A' H d v
  | .non, _, _, h, _, _ => h.2
  | .bl _, _, _, h, _, _ => h.2
  | .int _, _, _, h, _, _ => h.2
  | .str _, _, _, h, _, _ => h.2
  | .tup l, _, _, h, m, _ => R.up (Up.same (Same.refl H) m) (.tup l) h.2
  | .lst l, _, _, ⟨a, xs, e, eo, h1, h2⟩, m, o => ⟨a, xs, e, o a (by rw [eo]; simp), h1, RL.up (Up.same (Same.refl H) m) l h2⟩
  | .dct _ l, _, _, ⟨a, kvs, e, eo, h2, h3, h4⟩, m, o => ⟨a, kvs, e, o a (by rw [eo]; simp), .inl h2, h3, RL.up (Up.same (Same.refl H) m) l h4⟩
  | .obj _ l, _, _, ⟨a, dx, fs, e, eo, h2, h3, h4⟩, m, o => ⟨a, dx, fs, e, o a (by rw [eo]; simp), h2, h3, RL.up (Up.same (Same.refl H) m) l h4⟩
  | .exc _, _, _, h, _, _ => h.elim
  | .scr _, _, _, h, _, _ => h.2
theorem RO.up : ∀ {d : D} {v : V} {os : List Addr}, RO G A H d v os → Up G.K A A' H H' → (∀ a o, a ∈ os → H a = some o → H' a = some o) → RO G A' H' d v os
  | .non, _, _, h, _, _ => h
  | .bl _, _, _, h, _, _ => h
  | .int _, _, _, h, _, _ => h
  | .str _, _, _, h, _, _ => h
  | .tup l, _, _, h, u, _ => ⟨h.1, R.up u (.tup l) h.2⟩
  | .lst l, _, _, ⟨a, xs, e, eo, h1, h2⟩, u, k => ⟨a, xs, e, eo, k a _ (by rw [eo]; simp) h1, RL.up u l h2⟩
  | .dct _ l, _, _, ⟨a, kvs, e, eo, h2, h3, h4⟩, u, k => ⟨a, kvs, e, eo, k a _ (by rw [eo]; simp) h2, h3, RL.up u l h4⟩
  | .obj _ l, _, _, ⟨a, dx, fs, e, eo, h2, h3, h4⟩, u, k => ⟨a, dx, fs, e, eo, k a _ (by rw [eo]; simp) h2, h3, RL.up u l h4⟩
  | .exc _, _, _, h, _, _ => h.elim
  | .scr l, _, _, h, u, _ => ⟨h.1, R.up u (.scr l) h.2⟩
theorem RB.up : ∀ {d : D} {v : V}, RB G A H d v → Up G.K A A' H H' → Same H H' → RB G A' H' d v
  | .non, _, h, _, _ => h
  | .bl _, _, h, _, _ => h
  | .int _, _, h, _, _ => h
  | .str _, _, h, _, _ => h
  | .tup l, _, h, u, _ => R.up u (.tup l) h
  | .lst l, _, ⟨a, xs, e, h1, h2⟩, u, k => ⟨a, xs, e, k _ _ h1, RL.up u l h2⟩
  | .scr l, _, h, u, _ => R.up u (.scr l) h
  | .dct _ l, _, ⟨a, kvs, e, h2, h3, h4⟩, u, k => ⟨a, kvs, e, rdS h2 k, h3, RL.up u l h4⟩
  | .obj _ l, _, ⟨a, dx, fs, e, h2, h3, h4⟩, u, k => ⟨a, dx, fs, e, k _ _ h2, h3, RL.up u l h4⟩
  | .exc _, _, h, _, _ => h.elim
/-- read, then anything may be -/
theorem RB.r : ∀ {d : D} {v : V}, RB G A H d v → R G (fun _ => True) H d v
  | .non, _, h => h
  | .bl _, _, h => h
  | .int _, _, h => h
  | .str _, _, h => h
  | .tup l, _, h => R.up (Up.same (Same.refl H) fun _ _ => trivial) (.tup l) h
  | .lst l, _, ⟨a, xs, e, h1, h2⟩ => ⟨a, xs, e, trivial, h1, RL.up (Up.same (Same.refl H) fun _ _ => trivial) l h2⟩
  | .dct _ l, _, ⟨a, kvs, e, h2, h3, h4⟩ => ⟨a, kvs, e, trivial, h2, h3, RL.up (Up.same (Same.refl H) fun _ _ => trivial) l h4⟩
  | .obj _ l, _, ⟨a, dx, fs, e, h2, h3, h4⟩ => ⟨a, dx, fs, e, trivial, h2, h3, RL.up (Up.same (Same.refl H) fun _ _ => trivial) l h4⟩
  | .exc _, _, h => h.elim
  | .scr _, _, h => h
theorem RB.flat {d : D} {v : V} (f : flat d = true) (h : RB G A H d v) : R G A' H d v := by
  cases d with
  | non => exact h
  | bl _ => exact h
  | int _ => exact h
  | str _ => exact h
  | tup l => exact R.flat (.tup l) f h
  | lst _ => cases f
  | dct _ _ => cases f
  | obj _ _ => cases f
  | exc _ => cases f
  | scr _ => cases f
end
/-! ### values under their flags -/
section
/-- whose what is: the slots' own objects, the reserved ones of values at hand -/
structure Own where
  sl : Nat → List Addr
  tm : Addr → Prop
def ow (own : Own) (a : Addr) : Prop := (∃ i, a ∈ own.sl i) ∨ own.tm a
variable (G : Gb) (c : Fr) (w : Own) (H : Hp)
def RV : VF → D → V → Prop
  | .sh dp, d, v => R G (Av c (ow w) dp) H d v
  | .uq dp, d, v => ∃ os, RO G (Av c (ow w) dp) H d v os ∧ ∀ a, a ∈ os → w.tm a
  | .bo dp, d, v => RB G (Av c (ow w) dp) H d v
end
def VF.dp : VF → Bool
  | .sh d | .uq d | .bo d => d
def VF.nb : VF → Bool
  | .bo _ => false
  | _ => true
/-- nothing is owned anew but what is new -/
def Sub (O O' : Addr → Prop) (H : Hp) : Prop := ∀ a, O' a → O a ∨ H a = none
theorem sub_refl {O : Addr → Prop} {H : Hp} : Sub O O H := fun _ h => .inl h
theorem sub_trans {O O1 O2 : Addr → Prop} {H H1 : Hp} (a : Sub O O1 H) (s : Same H H1) (b : Sub O1 O2 H1) : Sub O O2 H := fun x h => by
  rcases b x h with z | z
  · exact a x z
  · exact .inr (s.free z)
/-- the heap grows, what is owned too: all that stands may be as before -/
theorem Up.grow {K : PySem.W.Frag} {c : Fr} {O O' : Addr → Prop} {d e : Bool} {H H' : Hp} (s : Same H H') (k : Sub O O' H) (hde : (d || !e) = true) : Up K (Av c O d) (Av c O' e) H H' := by
  have m : ∀ {a x}, Av c O d a → H a = some x → Av c O' e a := fun {a x} h q => by
    refine ⟨fun z => ?_, fun z => h.2.1 (by cases d <;> cases e <;> simp_all), h.2.2⟩
    rcases k a z with y | y
    · exact h.1 y
    · rw [q] at y; cases y
  refine ⟨fun a xs h r => ⟨m h r, s _ _ r⟩, fun a xs h r => ⟨?_, rdS r s⟩, fun a C dx fs h r => ⟨m h r, s _ _ r⟩, fun a xs r => rdS r s, fun a xs r => sfS r s⟩
  rcases r with r | ⟨_, r⟩
  · exact m h r
  · exact m h r
theorem Up.sub {K : PySem.W.Frag} {c : Fr} {O O' : Addr → Prop} {d e : Bool} {H : Hp} (k : ∀ a, O' a → O a) (hde : (d || !e) = true) : Up K (Av c O d) (Av c O' e) H H := Up.grow (Same.refl H) (fun a h => .inl (k a h)) hde
section
variable {G : Gb} {c : Fr} {w w' : Own} {H H' : Hp} {f : VF} {d : D} {v : V}
theorem RV.b (h : RV G c w H f d v) : RB G (Av c (ow w) f.dp) H d v := by
  cases f with
  | sh dp => exact R.b h
  | uq dp => obtain ⟨os, h, _⟩ := h; exact h.b
  | bo dp => exact h
theorem RB.grow {O O' : Addr → Prop} {p : Bool} (h : RB G (Av c O p) H d v) (s : Same H H') (k : Sub O O' H) : RB G (Av c O' p) H' d v := RB.up h (Up.grow s k (by cases p <;> rfl)) s
theorem RV.int {i : Int} (h : RV G c w H f (.int i) v) : v = .int i := h.b
theorem RV.bl {i : Bool} (h : RV G c w H f (.bl i) v) : v = .bl i := h.b
theorem RV.str {i : Str} (h : RV G c w H f (.str i) v) : v = .str i := h.b
theorem RV.non (h : RV G c w H f .non v) : v = .non := h.b
theorem RV.mkI (i : Int) : RV G c w H f (.int i) (.int i) := by cases f <;> first | exact ⟨[], ⟨rfl, rfl⟩, fun a h => by cases h⟩ | exact rfl
theorem RV.mkB (i : Bool) : RV G c w H f (.bl i) (.bl i) := by cases f <;> first | exact ⟨[], ⟨rfl, rfl⟩, fun a h => by cases h⟩ | exact rfl
theorem RV.mkS (i : Str) : RV G c w H f (.str i) (.str i) := by cases f <;> first | exact ⟨[], ⟨rfl, rfl⟩, fun a h => by cases h⟩ | exact rfl
theorem RV.mkN : RV G c w H f .non .non := by cases f <;> first | exact ⟨[], ⟨rfl, rfl⟩, fun a h => by cases h⟩ | exact rfl
end
end Pi
namespace Pi
open PySem PySem.Spec PyProof.Rows L2
def Own.put (w : Own) (i : Nat) (os : List Addr) : Own := ⟨fun j => if j = i then os else w.sl j, fun a => w.tm a ∧ a ∉ os⟩
/-- the reserved ones at os are free -/
def Own.rel (w : Own) (os : List Addr) : Own := ⟨w.sl, fun a => w.tm a ∧ a ∉ os⟩
/-- a new one is reserved -/
def Own.res (w : Own) (p : Addr) : Own := ⟨w.sl, fun a => w.tm a ∨ a = p⟩
section
variable (G : Gb) (c : Fr) (F : List SF) (en : En) (w : Own) (σ : L2.St) (H : Hp)
def Slt (i : Nat) : Prop :=
  match F[i]?, en[i]? with
  | some (.s dp), some (some d) => ∃ x, σ[i]? = some (some x) ∧ R G (Av c (ow w) dp) H d x
  | some (.o dp), some (some d) => ∃ x, σ[i]? = some (some x) ∧ RO G (Av c (ow w) dp) H d x (w.sl i)
  | some .z, some (some d) => ∃ x, σ[i]? = some (some x) ∧ RO G (Av c (ow w) false) H d x (w.sl i) ∧ ∀ a, a ∈ w.sl i → c.S a
  | some (.x a), _ => σ[i]? = some (some (.ref a))
  | _, _ => True
structure Ok : Prop where
  lF : F.length = σ.length
  lE : en.length = σ.length
  same : c.Sm H
  tr : ∀ a, c.S a → H a ≠ none
  dj : ∀ i j a, a ∈ w.sl i → a ∈ w.sl j → i = j
  dt : ∀ i a, a ∈ w.sl i → ¬ w.tm a
  nt : ∀ a, w.tm a → H a ≠ none ∧ c.H0 a = none
  nw : ∀ i a, a ∈ w.sl i → H a ≠ none ∧ (c.H0 a = none ∨ (F[i]? = some .z ∧ c.S a))
  sl : ∀ i, Slt G c F en w σ H i
  lk : ∀ a o, c.L a = some o → H a = some o ∧ (Im o ∨ ¬ ow w a)
end
def VF.slot : VF → SF
  | .sh d => .s d
  | .uq d => .o d
  | .bo _ => .n
section
variable {G : Gb} {c : Fr} {F : List SF} {en : En} {w w' : Own} {σ : L2.St} {H H' : Hp}
theorem Ok.free (ok : Ok G c F en w σ H) {a : Addr} (h : H a = none) : c.H0 a = none := by
  by_cases s : c.S a
  · exact absurd h (ok.tr a s)
  · cases q : c.H0 a with
    | none => rfl
    | some o => rw [ok.same a o s q] at h; cases h
theorem Ok.trk (ok : Ok G c F en w σ H) {a : Addr} (h : ow w a) : H a ≠ none := by
  rcases h with ⟨i, hi⟩ | h
  · exact (ok.nw i a hi).1
  · exact (ok.nt a h).1
/-- a slot's value, borrowed -/
theorem Ok.get (ok : Ok G c F en w σ H) {i : Nat} {d : D} (he : en[i]? = some (some d)) {f : SF} (hf : F[i]? = some f) (hn : f ≠ .n) (hx : ∀ a, f ≠ .x a := by simp) :
    ∃ x, σ[i]? = some (some x) ∧ (match f with | .s dp => R G (Av c (ow w) dp) H d x | .o dp => RO G (Av c (ow w) dp) H d x (w.sl i) | .z => RO G (Av c (ow w) false) H d x (w.sl i) | _ => True) := by
  have s := ok.sl i
  unfold Slt at s
  rw [he, hf] at s
  cases f with
  | n => exact absurd rfl hn
  | s dp => obtain ⟨x, h1, h2⟩ := s; exact ⟨x, h1, h2⟩
  | o dp => obtain ⟨x, h1, h2⟩ := s; exact ⟨x, h1, h2⟩
  | z => obtain ⟨x, h1, h2, _⟩ := s; exact ⟨x, h1, h2⟩
  | x a => exact absurd rfl (hx a)
theorem same_ne {a : Addr} (s : Same H H') (h : H a ≠ none) : H' a ≠ none := by
  cases q : H a with
  | none => exact absurd q h
  | some o => rw [s _ _ q]; simp
/-- the slots' part, to a grown heap under the same slots and other temps -/
theorem Slt.grow {i : Nat} (h : Slt G c F en w σ H i) (s : Same H H') (e : w'.sl i = w.sl i) (k : Sub (ow w) (ow w') H) : Slt G c F en w' σ H' i := by
  unfold Slt at h ⊢
  split
  · rename_i dp d hf he; rw [hf, he] at h; obtain ⟨x, h1, h2⟩ := h; exact ⟨x, h1, R.up (Up.grow s k (by cases dp <;> rfl)) _ h2⟩
  · rename_i dp d hf he; rw [hf, he] at h; obtain ⟨x, h1, h2⟩ := h; refine ⟨x, h1, ?_⟩; rw [e]; exact RO.up h2 (Up.grow s k (by cases dp <;> rfl)) fun a o _ q => s _ _ q
  · rename_i d hf he; rw [hf, he] at h; obtain ⟨x, h1, h2, h3⟩ := h; refine ⟨x, h1, ?_⟩; rw [e]; exact ⟨RO.up h2 (Up.grow s k rfl) (fun a o _ q => s _ _ q), h3⟩
  · rename_i hf; rw [hf] at h; simpa using h
  · trivial
/-- the heap grows: all stands -/
theorem Ok.grow (ok : Ok G c F en w σ H) (s : Same H H') : Ok G c F en w σ H' where
  lF := ok.lF
  lE := ok.lE
  same := fun b o n e => s _ _ (ok.same b o n e)
  tr := fun a h => same_ne s (ok.tr a h)
  dj := ok.dj
  dt := ok.dt
  nt := fun a h => ⟨same_ne s (ok.nt a h).1, (ok.nt a h).2⟩
  nw := fun i a h => ⟨same_ne s (ok.nw i a h).1, (ok.nw i a h).2⟩
  sl := fun i => (ok.sl i).grow s rfl sub_refl
  lk := fun a o h => ⟨s _ _ (ok.lk a o h).1, (ok.lk a o h).2⟩
/-- a new object is reserved -/
theorem Ok.res (ok : Ok G c F en w σ H) {p : Addr} {o : HO} (hp : H p = none) : Ok G c F en (w.res p) σ (upd H p o) where
  lF := ok.lF
  lE := ok.lE
  same := fun b o n e => same_new hp _ _ (ok.same b o n e)
  tr := fun a h => same_ne (same_new hp) (ok.tr a h)
  dj := ok.dj
  dt := fun i a h z => z.elim (ok.dt i a h) fun e => by subst e; exact (ok.nw i _ h).1 hp
  nt := fun a h => h.elim (fun h => ⟨same_ne (same_new hp) (ok.nt a h).1, (ok.nt a h).2⟩) fun e => by subst e; exact ⟨by rw [upd_same]; simp, ok.free hp⟩
  nw := fun i a h => ⟨same_ne (same_new hp) (ok.nw i a h).1, (ok.nw i a h).2⟩
  sl := fun i => (ok.sl i).grow (same_new hp) rfl fun a h => by
    rcases h with h | h | h
    · exact .inl (.inl h)
    · exact .inl (.inr h)
    · subst h; exact .inr hp
  lk := fun a o h => ⟨same_new hp _ _ (ok.lk a o h).1, (ok.lk a o h).2.imp id fun n z => by
    rcases z with z | z | z
    · exact n (.inl z)
    · exact n (.inr z)
    · subst z; have := (ok.lk _ o h).1; rw [hp] at this; cases this⟩
theorem sub_res {p : Addr} (hp : H p = none) : Sub (ow w) (ow (w.res p)) H := fun a h => by
  rcases h with h | h | h
  · exact .inl (.inl h)
  · exact .inl (.inr h)
  · subst h; exact .inr hp
theorem ow_rel {os : List Addr} {a : Addr} (h : ow (w.rel os) a) : ow w a := h.imp id And.left
theorem Ok.rel (ok : Ok G c F en w σ H) (os : List Addr) : Ok G c F en (w.rel os) σ H where
  lF := ok.lF
  lE := ok.lE
  same := ok.same
  tr := ok.tr
  dj := ok.dj
  dt := fun i a h z => ok.dt i a h z.1
  nt := fun a h => ok.nt a h.1
  nw := ok.nw
  sl := fun i => (ok.sl i).grow (Same.refl H) rfl fun a h => .inl (ow_rel h)
  lk := fun a o h => ⟨(ok.lk a o h).1, (ok.lk a o h).2.imp id fun n z => n (ow_rel z)⟩
/-- a value at hand is shared from here on -/
theorem RV.share {f : VF} {d : D} {v : V} (ok : Ok G c F en w σ H) (h : RV G c w H f d v) (n : f.nb = true) : ∃ w', Ok G c F en w' σ H ∧ (∀ a, ow w' a → ow w a) ∧ R G (Av c (ow w') f.dp) H d v := by
  cases f with
  | sh dp => exact ⟨w, ok, fun _ h => h, h⟩
  | uq dp =>
    obtain ⟨os, h, q⟩ := h
    refine ⟨w.rel os, ok.rel os, fun _ h => ow_rel h, RO.r h (fun a z => ⟨fun y => z.1 (ow_rel y), z.2⟩) fun a z => ?_⟩
    have nn := (ok.nt a (q a z)).2
    refine ⟨fun y => ?_, fun _ => nn, .inl nn⟩
    rcases y with ⟨i, hi⟩ | y
    · exact ok.dt i a hi (q a z)
    · exact y.2 z
  | bo dp => cases n
/-- flags that say less -/
def SF.wk : SF → SF → Bool
  | _, .n => true
  | .s d, .s e => d || !e
  | .o d, .s e => d || !e
  | .o d, .o e => d || !e
  | .z, .z => true
  | .x a, .x b => a == b
  | _, _ => false
def wkL : List SF → List SF → Bool
  | [], [] => true
  | f :: F, g :: F' => f.wk g && wkL F F'
  | _, _ => false
theorem wkL_len : ∀ {F F' : List SF}, wkL F F' = true → F.length = F'.length
  | [], [], _ => rfl
  | _ :: F, _ :: F', h => by
    simp only [wkL, Bool.and_eq_true] at h
    exact congrArg Nat.succ (wkL_len h.2)
  | [], _ :: _, h => by cases h
  | _ :: _, [], h => by cases h
theorem wkL_at : ∀ {F F' : List SF} {i : Nat} {g : SF}, wkL F F' = true → F'[i]? = some g → ∃ f, F[i]? = some f ∧ f.wk g = true
  | [], [], i, g, _, e => by simp at e
  | f :: F, g :: F', 0, g', h, e => by
    simp only [wkL, Bool.and_eq_true] at h
    simp at e; subst e
    exact ⟨f, rfl, h.1⟩
  | f :: F, g :: F', i + 1, g', h, e => by
    simp only [wkL, Bool.and_eq_true] at h
    exact wkL_at (i := i) h.2 (by simpa using e)
  | [], _ :: _, _, _, h, _ => by cases h
  | _ :: _, [], _, _, h, _ => by cases h
def SF.owns : SF → Bool
  | .o _ | .z => true
  | _ => false
theorem Ok.weak (ok : Ok G c F en w σ H) {F' : List SF} (h : wkL F F' = true) : ∃ w' : Own, Ok G c F' en w' σ H ∧ (∀ a, ow w' a → ow w a) ∧ w'.tm = w.tm := by
  refine ⟨⟨fun i => if (F'[i]?.map SF.owns).getD false = true then w.sl i else [], w.tm⟩, ?_⟩
  generalize ho : (fun i => if (F'[i]?.map SF.owns).getD false = true then w.sl i else []) = sl'
  have hsub : ∀ i a, a ∈ sl' i → a ∈ w.sl i := fun i a hm => by
    rw [← ho] at hm
    dsimp only at hm
    split at hm
    · exact hm
    · cases hm
  have hs : ∀ a, ow ⟨sl', w.tm⟩ a → ow w a := fun a q => q.imp (fun ⟨i, hi⟩ => ⟨i, hsub i a hi⟩) id
  have how : ∀ i g, F'[i]? = some g → g.owns = true → sl' i = w.sl i := fun i g h1 h2 => by
    rw [← ho]
    dsimp only
    rw [h1]
    simp [h2]
  have hno : ∀ i g, F'[i]? = some g → g.owns = false → sl' i = [] := fun i g h1 h2 => by
    rw [← ho]
    dsimp only
    rw [h1]
    simp [h2]
  refine ⟨⟨(wkL_len h).symm.trans ok.lF, ok.lE, ok.same, ok.tr, fun i j a h1 h2 => ok.dj i j a (hsub i a h1) (hsub j a h2), fun i a hm => ok.dt i a (hsub i a hm), ok.nt, fun i a hm => ?_, fun i => ?_, fun a o h => ⟨(ok.lk a o h).1, (ok.lk a o h).2.imp id fun n z => n (hs a z)⟩⟩, hs, rfl⟩
  · obtain ⟨q1, q2⟩ := ok.nw i a (hsub i a hm)
    refine ⟨q1, q2.imp id fun ⟨q3, q4⟩ => ⟨?_, q4⟩⟩
    cases hg : F'[i]? with
    | none =>
      have hm' : a ∈ sl' i := hm
      rw [← ho] at hm'
      dsimp only at hm'
      rw [hg] at hm'
      simp at hm'
    | some g =>
      obtain ⟨f, hf, hw⟩ := wkL_at h hg
      rw [hf] at q3
      cases q3
      have hm' : a ∈ sl' i := hm
      cases g with
      | z => rfl
      | n => rw [hno i _ hg rfl] at hm'; cases hm'
      | s _ => cases hw
      | o _ => cases hw
      | x _ => cases hw
  · have hsl := ok.sl i
    unfold Slt at hsl ⊢
    cases hg : F'[i]? with
    | none => simp
    | some g =>
      obtain ⟨f, hf, hw⟩ := wkL_at h hg
      rw [hf] at hsl
      by_cases gx : ∃ a, g = .x a
      · obtain ⟨a, rfl⟩ := gx
        have fx : f = .x a := by
          cases f with
          | x b => have : b = a := by simpa [SF.wk] using hw
                   rw [this]
          | _ => cases hw
        subst fx
        simpa using hsl
      cases he : en[i]? with
      | none => cases g <;> first | (exact absurd ⟨_, rfl⟩ gx) | simp
      | some od =>
        cases od with
        | none => cases g <;> first | (exact absurd ⟨_, rfl⟩ gx) | simp
        | some d =>
          rw [he] at hsl
          have nz : ∀ a o, a ∈ w.sl i → H a = some o → H a = some o := fun _ _ _ z => z
          cases g with
          | n => trivial
          | x a => exact absurd ⟨_, rfl⟩ gx
          | s e =>
            cases f with
            | n => cases hw
            | z => cases hw
            | x _ => cases hw
            | s dp => obtain ⟨x, h1, h2⟩ := hsl; exact ⟨x, h1, R.up (Up.sub hs hw) _ h2⟩
            | o dp =>
              obtain ⟨x, h1, h2⟩ := hsl
              refine ⟨x, h1, RO.r h2 (fun a z => ⟨fun y => z.1 (hs a y), fun y => z.2.1 (by cases dp <;> cases e <;> simp_all [SF.wk]), z.2.2⟩) fun a z => ?_⟩
              have hnz : c.H0 a = none := ((ok.nw i a z).2.resolve_right fun ⟨q, _⟩ => by rw [hf] at q; cases q)
              refine ⟨fun y => ?_, fun _ => hnz, .inl hnz⟩
              rcases y with ⟨j, hj⟩ | y
              · have ij : i = j := ok.dj i j a z (hsub j a hj)
                subst ij
                have hj' : a ∈ sl' i := hj
                rw [hno i _ hg rfl] at hj'
                cases hj'
              · exact ok.dt i a z y
          | o e =>
            cases f with
            | n => cases hw
            | z => cases hw
            | x _ => cases hw
            | s dp => cases hw
            | o dp =>
              obtain ⟨x, h1, h2⟩ := hsl
              refine ⟨x, h1, ?_⟩
              show RO G _ H d x (sl' i)
              rw [how i _ hg rfl]
              exact RO.up h2 (Up.sub hs hw) nz
          | z =>
            cases f with
            | n => cases hw
            | s dp => cases hw
            | o dp => cases hw
            | x _ => cases hw
            | z =>
              obtain ⟨x, h1, h2, h3⟩ := hsl
              refine ⟨x, h1, ?_⟩
              show RO G _ H d x (sl' i) ∧ ∀ a, a ∈ sl' i → c.S a
              rw [how i _ hg rfl]
              exact ⟨RO.up h2 (Up.sub hs rfl) nz, h3⟩
/-- a slot's value as a flagged one -/
theorem ow_put {i : Nat} {os : List Addr} {a : Addr} (h : ow (w.put i os) a) : a ∈ os ∨ ow w a := by
  rcases h with ⟨j, hj⟩ | h
  · unfold Own.put at hj
    dsimp only at hj
    split at hj
    · exact .inl hj
    · exact .inr (.inl ⟨j, hj⟩)
  · exact .inr (.inr h.1)
/-- a value at hand goes into a slot -/
theorem Ok.put {f : VF} {d : D} {v : V} (ok : Ok G c F en w σ H) {i : Nat} (hi : i < F.length) (hz : F[i]? ≠ some .z) (r : RV G c w H f d v) (n : f.nb = true) :
    ∃ w', Ok G c (F.set i f.slot) (en.set i (some d)) w' (σ.set i (some v)) H ∧ (∀ a, ow w' a → ow w a) := by
  obtain ⟨os, hos, hr⟩ : ∃ os : List Addr, (∀ a, a ∈ os → w.tm a) ∧ (match f with | .sh dp => os = [] ∧ R G (Av c (ow w) dp) H d v | .uq dp => RO G (Av c (ow w) dp) H d v os | .bo _ => False) := by
    cases f with
    | sh dp => exact ⟨[], (fun a h => by cases h), rfl, r⟩
    | uq dp => obtain ⟨os, h, q⟩ := r; exact ⟨os, q, h⟩
    | bo dp => cases n
  have hsub : ∀ a, ow (w.put i os) a → ow w a := fun a h => (ow_put h).elim (fun h => .inr (hos a h)) id
  have hσ : i < σ.length := by rw [← ok.lF]; exact hi
  refine ⟨w.put i os, ⟨by simpa using ok.lF, by simpa using ok.lE, ok.same, ok.tr, fun j k a h1 h2 => ?_, fun j a h z => ?_, fun a h => ok.nt a h.1, fun j a h => ?_, fun j => ?_, fun a o h => ⟨(ok.lk a o h).1, (ok.lk a o h).2.imp id fun n z => n (hsub a z)⟩⟩, hsub⟩
  · unfold Own.put at h1 h2
    dsimp only at h1 h2
    split at h1
    · split at h2
      · rename_i e1 e2; rw [e1, e2]
      · exact absurd (hos a h1) (ok.dt k a h2)
    · split at h2
      · exact absurd (hos a h2) (ok.dt j a h1)
      · exact ok.dj j k a h1 h2
  · have h' := h
    unfold Own.put at h'
    dsimp only at h'
    split at h'
    · exact z.2 h'
    · exact ok.dt j a h' z.1
  · unfold Own.put at h
    dsimp only at h
    split at h
    · exact ⟨(ok.nt a (hos a h)).1, .inl (ok.nt a (hos a h)).2⟩
    · rename_i ne
      obtain ⟨q1, q2⟩ := ok.nw j a h
      refine ⟨q1, q2.imp id fun ⟨q3, q4⟩ => ⟨?_, q4⟩⟩
      rw [List.getElem?_set_ne (fun e => ne e.symm)]
      exact q3
  · by_cases e : j = i
    · subst e
      unfold Slt
      rw [List.getElem?_set_self hi, List.getElem?_set_self (by rw [ok.lE]; exact hσ)]
      have es : (w.put j os).sl j = os := if_pos rfl
      cases f with
      | sh dp =>
        obtain ⟨_, h⟩ := hr
        exact ⟨v, List.getElem?_set_self hσ, R.up (Up.sub hsub (by cases dp <;> rfl)) _ h⟩
      | uq dp =>
        refine ⟨v, List.getElem?_set_self hσ, ?_⟩
        rw [es]
        exact RO.up hr (Up.sub hsub (by cases dp <;> rfl)) fun _ _ _ z => z
      | bo dp => exact hr.elim
    · have h := ok.sl j
      have es : (w.put i os).sl j = w.sl j := if_neg e
      have h2 := h.grow (w' := w.put i os) (Same.refl H) es fun a h => .inl (hsub a h)
      unfold Slt at h2 ⊢
      rw [List.getElem?_set_ne (fun z => e z.symm), List.getElem?_set_ne (fun z => e z.symm), List.getElem?_set_ne (fun z => e z.symm)]
      exact h2
end
end Pi
namespace Pi
open PySem PySem.Spec PyProof.Rows L2
def locB (sc : Scope) (x : Str) : Bool := match sc.names.lookup x with
  | some .local | some .cell => true
  | _ => false
/-! ### where one stands -/
structure Gv (G : Gb) (N : List Str) (sc : Scope) (X : Cx) : Prop where
  prog : X.prog = G.P
  w : X.w = G.w
  K : X.K = G.K
  mg : X.mg = G.mg
  base : X.base = G.base
  nN : X.N = N
  nd : N.Nodup
  sc : X.env.scope = sc
  un : X.A.units + 64 < cLine
structure Gd (G : Gb) (N : List Str) (sc : Scope) (k : Nat) (W : WX) (X : Cx) : Prop extends Gv G N sc X where
  calm : X.calm = true
  room : Room k X.A
  tk : Takes X W
  po : PassesOwn (model X.prog X.w) X.A X.env X.xe
theorem pe_imp {X : Cx} {e : Expr} {t t' : TE} (h : PE X e t) (m : ∀ σ H Q, t' σ H Q → t σ H Q) : PE X e t' := ⟨fun pins s σ H Q I q => h.run pins s σ H Q I (m σ H Q q)⟩
theorem pt_imp {X : Cx} {e : Expr} {t t' : TT} (h : PT X e t) (m : ∀ σ H Q, t' σ H Q → t σ H Q) : PT X e t' := ⟨fun pins s σ H Q I q => h.run pins s σ H Q I (m σ H Q q)⟩
theorem pa_imp {X : Cx} {e : List Expr} {t t' : TA} (h : PA X e t) (m : ∀ σ H Q, t' σ H Q → t σ H Q) : PA X e t' := ⟨fun pos pins s σ H Q I q => h.run pos pins s σ H Q I (m σ H Q q)⟩
theorem ps_imp {X : Cx} {e : Stmt} {t t' : TS} (h : PS X e t) (m : ∀ D σ H, t' D σ H → t D σ H) : PS X e t' := ⟨fun pins s σ H D I q => h.run pins s σ H D I (m D σ H q)⟩
theorem pss_imp {X : Cx} {e : List Stmt} {t t' : TS} (h : PSs X e t) (m : ∀ D σ H, t' D σ H → t D σ H) : PSs X e t' := ⟨fun pins s σ H D I q => h.run pins s σ H D I (m D σ H q)⟩
/-! ### what is wanted of a result -/
def Mt (G : Gb) (W : WX) (c : Fr) (σ : L2.St) {α : Type} (r : Rs α) (k : α → Prop) : Prop :=
  match r with
  | .ok a => k a
  | .error (.raise e) => ∀ H', c.Sm H' → W (.ref (G.xa e)) none σ H'
  | .error .stuck => False
theorem Mt.bnd {G : Gb} {W : WX} {c : Fr} {σ : L2.St} {α β : Type} {r : Rs α} {f : α → Rs β} {k : β → Prop} (h : Mt G W c σ (bnd r f) k) : Mt G W c σ r fun a => Mt G W c σ (f a) k := by
  cases r with
  | ok a => exact h
  | error e => cases e with
    | raise e => exact h
    | stuck => exact h
theorem Mt.imp {G : Gb} {W : WX} {c : Fr} {σ : L2.St} {α : Type} {r : Rs α} {k k' : α → Prop} (h : Mt G W c σ r k) (m : ∀ a, r = .ok a → k a → k' a) : Mt G W c σ r k' := by
  cases r with
  | ok a => exact m a rfl h
  | error e => cases e with
    | raise e => exact h
    | stuck => exact h
def TEv (G : Gb) (W : WX) (F F' : List SF) (f : VF) (ev : EvE) : TE := fun σ H Q => ∃ (c : Fr) (en : En) (own : Own), Ok G c F en own σ H ∧
  Mt G W c σ (ev en) fun d => ∀ v H' own', Ok G c F' en own' σ H' → Same H H' → Sub (ow own) (ow own') H → RV G c own' H' f d v → Q v H'
/-- arguments: shared, or borrowed -/
def RA (G : Gb) (c : Fr) (O : Addr → Prop) (H : Hp) : VF → D → V → Prop
  | .bo dp, d, v => RB G (Av c O dp) H d v
  | f, d, v => R G (Av c O f.dp) H d v
def RVL (G : Gb) (c : Fr) (O : Addr → Prop) (H : Hp) : List VF → List D → List V → Prop
  | [], ds, vs => ds = [] ∧ vs = []
  | f :: fs, ds, vs => ∃ d r v t, ds = d :: r ∧ vs = v :: t ∧ RA G c O H f d v ∧ RVL G c O H fs r t
theorem RA.up {G : Gb} {c : Fr} {O O' : Addr → Prop} {H H' : Hp} {f : VF} {d : D} {v : V} (h : RA G c O H f d v) (s : Same H H') (k : Sub O O' H) : RA G c O' H' f d v := by
  cases f with
  | sh dp => exact R.up (Up.grow s k (by cases dp <;> rfl)) _ h
  | uq dp => exact R.up (Up.grow s k (by cases dp <;> rfl)) _ h
  | bo dp => exact RB.grow h s k
theorem RA.b {G : Gb} {c : Fr} {O : Addr → Prop} {H : Hp} {f : VF} {d : D} {v : V} (h : RA G c O H f d v) : RB G (Av c O f.dp) H d v := by
  cases f with
  | sh dp => exact R.b h
  | uq dp => exact R.b h
  | bo dp => exact h
theorem RVL.up {G : Gb} {c : Fr} {O O' : Addr → Prop} {H H' : Hp} : ∀ {fs : List VF} {ds : List D} {vs : List V}, RVL G c O H fs ds vs → Same H H' → Sub O O' H → RVL G c O' H' fs ds vs
  | [], _, _, h, _, _ => h
  | _ :: fs, _, _, ⟨d, r, v, t, e1, e2, h1, h2⟩, s, k => ⟨d, r, v, t, e1, e2, h1.up s k, RVL.up (fs := fs) h2 s k⟩
def TAv (G : Gb) (W : WX) (F F' : List SF) (fs : List VF) (ev : En → Rs (List D)) : TA := fun σ H Q => ∃ (c : Fr) (en : En) (own : Own), Ok G c F en own σ H ∧
  Mt G W c σ (ev en) fun ds => ∀ vs H' own', Ok G c F' en own' σ H' → Same H H' → Sub (ow own) (ow own') H → RVL G c (ow own') H' fs ds vs → Q vs H'
def TTv (G : Gb) (W : WX) (F F' : List SF) (ev : En → Rs Bool) : TT := fun σ H Q => ∃ (c : Fr) (en : En) (own : Own), Ok G c F en own σ H ∧
  Mt G W c σ (ev en) fun b => ∀ H' own', Ok G c F' en own' σ H' → Same H H' → Sub (ow own) (ow own') H → Q b H'
section
variable {G : Gb} {W : WX} {N : List Str} {sc : Scope} {k : Nat} {X : Cx} {F F1 F2 F3 : List SF} {f f1 f2 : VF} {c : Fr} {en : En} {own : Own} {σ : L2.St} {H : Hp}
/-! ### names, constants -/
def eVar (i : Nat) : EvE := fun en => match en[i]? with
  | some (some d) => .ok d
  | _ => .error .stuck
def eC (d : D) : EvE := fun _ => .ok d
@[simp] theorem eC_ap (d : D) (en : En) : eC d en = .ok d := rfl
def SF.v : SF → VF
  | .s d => .sh d
  | .o d => .bo d
  | _ => .bo false
def SF.rd : SF → Bool
  | .n | .x _ => false
  | _ => true
def visB (sc : Scope) (x : Str) : Bool := match sc.names.lookup x with
  | some .local | some .cell | some .free => true
  | _ => false
def nameB (x : Str) : Bool := !(x == ("__debug__" : Str)) && !(x == ("__classdict__" : Str)) && !(x == ("__name__" : Str))
theorem visB_vis {x : Str} (h : visB sc x = true) (e : X.env.scope = sc) : Vis X.env.scope x := by
  rw [e]
  unfold visB at h
  split at h
  · exact .inl (by assumption)
  · exact .inr (.inl (by assumption))
  · exact .inr (.inr (by assumption))
  · cases h
theorem nameB_d {x : Str} (h : nameB x = true) : (x == ("__debug__" : Str)) = false ∧ (x == ("__classdict__" : Str)) = false ∧ x ≠ "__name__" := by
  unfold nameB at h
  simp only [Bool.and_eq_true, Bool.not_eq_true'] at h
  exact ⟨h.1.1, h.1.2, fun e => by have := h.2; rw [e] at this; simp at this⟩
theorem de_var (g : Gv G N sc X) (i : Nat) {x : Str} {pos : Pos} {fl : SF} (hN : N[i]? = some x := by rfl) (hv : visB sc x = true := by rfl) (hx : nameB x = true := by rfl) (hf : F[i]? = some fl := by rfl) (hn : fl.rd = true := by rfl) :
    PE X (.Name x pos) (TEv G W F F fl.v (eVar i)) := by
  obtain ⟨h1, h2, _⟩ := nameB_d hx
  refine pe_imp (pe_var (i := i) (by rw [g.nN]; exact hN) (visB_vis hv g.sc) h1 h2) ?_
  rintro σ H Q ⟨c, en, own, ok, m⟩
  unfold eVar at m
  split at m
  · rename_i d he
    obtain ⟨x', e1, q⟩ := ok.get he hf (fun e => by subst e; cases hn) (fun a e => by subst e; cases hn)
    refine ⟨x', e1, m x' H own ok (Same.refl H) sub_refl ?_⟩
    cases fl with
    | n => cases hn
    | x _ => cases hn
    | s dp => exact q
    | o dp => exact RO.b q
    | z => exact RO.b q
  · exact m.elim
def SF.mv : SF → SF
  | .o d => .s d
  | f => f
def SF.mvOk : SF → Bool
  | .o _ | .s _ => true
  | _ => false
def SF.mvV : SF → VF
  | .o d => .sh d
  | .s d => .sh d
  | _ => .bo false
def mvL : List SF → Nat → List SF
  | [], _ => []
  | f :: F, 0 => f.mv :: F
  | f :: F, i + 1 => f :: mvL F i
theorem mvL_wk : ∀ (F : List SF) (i : Nat), wkL F (mvL F i) = true
  | [], _ => rfl
  | f :: F, 0 => by
    have h : ∀ F : List SF, wkL F F = true := fun F => by
      induction F with
      | nil => rfl
      | cons f F ih => cases f <;> simp [wkL, SF.wk, ih]
    cases f <;> simp [mvL, wkL, SF.wk, SF.mv, h]
  | f :: F, i + 1 => by
    have := mvL_wk F i
    cases f <;> simp [mvL, wkL, SF.wk, this]
theorem mvL_at : ∀ {F : List SF} {i : Nat} {f : SF}, F[i]? = some f → (mvL F i)[i]? = some f.mv
  | [], _, _, h => by simp at h
  | f :: F, 0, _, h => by simp at h; subst h; rfl
  | f :: F, i + 1, _, h => mvL_at (F := F) (i := i) (by simpa using h)
theorem de_mv (g : Gv G N sc X) (i : Nat) {x : Str} {pos : Pos} {fl : SF} (hN : N[i]? = some x := by rfl) (hv : visB sc x = true := by rfl) (hx : nameB x = true := by rfl) (hf : F[i]? = some fl := by rfl) (hn : fl.mvOk = true := by rfl) :
    PE X (.Name x pos) (TEv G W F (mvL F i) fl.mvV (eVar i)) := by
  obtain ⟨h1, h2, _⟩ := nameB_d hx
  refine pe_imp (pe_var (i := i) (by rw [g.nN]; exact hN) (visB_vis hv g.sc) h1 h2) ?_
  rintro σ H Q ⟨c, en, own, ok, m⟩
  unfold eVar at m
  split at m
  · rename_i d he
    obtain ⟨own', ok', sb, _⟩ := ok.weak (mvL_wk F i)
    obtain ⟨x', e1, q⟩ := ok'.get he (mvL_at hf) (by cases fl <;> simp_all [SF.mv, SF.mvOk]) (by cases fl <;> simp_all [SF.mv, SF.mvOk])
    refine ⟨x', e1, m x' H own' ok' (Same.refl H) (fun a h => .inl (sb a h)) ?_⟩
    cases fl with
    | n => cases hn
    | s dp => exact q
    | o dp => exact q
    | z => cases hn
    | x _ => cases hn
  · exact m.elim
theorem de_int (i : Int) {j pos} : PE X (.Constant (.int i) j pos) (TEv G W F F (.uq true) (eC (.int i))) := by
  refine pe_imp pe_int ?_
  rintro σ H Q ⟨c, en, own, ok, m⟩
  exact m _ H own ok (Same.refl H) sub_refl (RV.mkI i)
theorem de_bl (i : Bool) {j pos} : PE X (.Constant (.bool i) j pos) (TEv G W F F (.uq true) (eC (.bl i))) := by
  refine pe_imp pe_bl ?_
  rintro σ H Q ⟨c, en, own, ok, m⟩
  exact m _ H own ok (Same.refl H) sub_refl (RV.mkB i)
theorem de_str (i : Str) {j pos} : PE X (.Constant (.str i) j pos) (TEv G W F F (.uq true) (eC (.str i))) := by
  refine pe_imp pe_str ?_
  rintro σ H Q ⟨c, en, own, ok, m⟩
  exact m _ H own ok (Same.refl H) sub_refl (RV.mkS i)
theorem de_non {j pos} : PE X (.Constant .none j pos) (TEv G W F F (.uq true) (eC .non)) := by
  refine pe_imp pe_non ?_
  rintro σ H Q ⟨c, en, own, ok, m⟩
  exact m _ H own ok (Same.refl H) sub_refl RV.mkN
def glbB (sc : Scope) (x : Str) : Bool := match sc.names.lookup x with
  | some .globalImplicit => true
  | _ => false
theorem glbB_gl {x : Str} (h : glbB sc x = true) (e : X.env.scope = sc) : Gl X x := by
  show X.env.scope.names.lookup x = _
  rw [e]
  unfold glbB at h
  split at h
  · assumption
  · cases h
/-- a constant of the module -/
structure Glo (G : Gb) (x : Str) (d : D) : Prop where
  ex : ∃ v u, G.mg x = some u ∧ RelV v u ∧ ∀ A H, R G A H d v
theorem de_glo (g : Gv G N sc X) {x : Str} {pos : Pos} {d : D} (h : Glo G x d) (hx : glbB sc x = true := by rfl) (hd : nameB x = true := by rfl) : PE X (.Name x pos) (TEv G W F F (.sh true) (eC d)) := by
  obtain ⟨v, u, e, r, q⟩ := h
  refine pe_imp (pe_glob (glbB_gl hx g.sc) (by rw [g.mg]; exact e) r (nameB_d hd).1) ?_
  rintro σ H Q ⟨c, en, own, ok, m⟩
  exact m _ H own ok (Same.refl H) sub_refl (q _ _)
/-! ### operators by values -/
def ofO {α : Type} : Option α → Rs α
  | some a => .ok a
  | none => .error .stuck
@[simp] theorem ofO_some {α : Type} (a : α) : ofO (some a) = .ok a := rfl
@[simp] theorem ofO_none {α : Type} : ofO (none : Option α) = .error .stuck := rfl
theorem Mt.ofO {α : Type} {o : Option α} {q : α → Prop} (h : Mt G W c σ (ofO o) q) : ∃ a, o = some a ∧ q a := by
  cases o with
  | none => exact h.elim
  | some a => exact ⟨a, rfl, h⟩
def eB2 (op : D → D → Option D) (a b : EvE) : EvE := fun en => bnd (a en) fun x => bnd (b en) fun y => ofO (op x y)
def eU1 (op : D → Option D) (a : EvE) : EvE := fun en => bnd (a en) fun x => ofO (op x)
/-- o is the object of z, its parts read at H -/
def NewO (G : Gb) (A : Addr → Prop) (H : Hp) : D → HO → Prop
  | .lst l, o => ∃ xs, o = .lst xs ∧ RL G A H l xs
  | .dct ks l, o => ∃ kvs : List (Key × V), o = .dK kvs ∧ kvs.map (·.1) = ks ∧ RL G A H l (kvs.map (·.2))
  | .tup l, o => ∃ xs, o = .tup xs ∧ RL G A H l xs
  | _, _ => False
/-- what an operation's value is: read from what there is, or a new object -/
structure Kp (G : Gb) (c : Fr) (O : Addr → Prop) (H : Hp) (f : VF) (z : D) (Q : VK) : Prop where
  old : ∀ v, (match f with | .sh dp => R G (Av c O dp) H z v | .uq _ => flat z = true ∧ R G (fun _ => True) H z v | .bo dp => RB G (Av c O dp) H z v) → Q v H
  new : ∀ p o, H p = none → NewO G (Av c O f.dp) H z o → Q (.ref p) (upd H p o)
theorem flat_uq {A : Addr → Prop} {z : D} {v : V} (f : flat z = true) (h : R G (fun _ => True) H z v) : RO G A H z v [] := by
  have h' : R G A H z v := R.flat z f h
  cases z <;> first | exact ⟨rfl, h'⟩ | cases f
theorem Ok.kp {z : D} {Q : VK} (ok : Ok G c F en own σ H) (q : ∀ v H' own', Ok G c F en own' σ H' → Same H H' → Sub (ow own) (ow own') H → RV G c own' H' f z v → Q v H') : Kp G c (ow own) H f z Q := by
  refine ⟨fun v h => q v H own ok (Same.refl H) sub_refl ?_, fun p o hp h => ?_⟩
  · cases f with
    | sh dp => exact h
    | uq dp => exact ⟨[], flat_uq h.1 h.2, fun a h => by cases h⟩
    | bo dp => exact h
  · have g : ∀ (own' : Own), Sub (ow own) (ow own') H → ∀ l xs, RL G (Av c (ow own) f.dp) H l xs → RL G (Av c (ow own') f.dp) (upd H p o) l xs :=
      fun own' k l xs h => RL.up (Up.grow (same_new hp) k (by cases f.dp <;> rfl)) l h
    have np : ¬ ow own p := fun z => ok.trk z hp
    have n0 := ok.free hp
    cases f with
    | sh dp =>
      refine q _ _ own (ok.grow (same_new hp)) (same_new hp) sub_refl ?_
      have ap : Av c (ow own) dp p := ⟨np, fun _ => n0, .inl n0⟩
      cases z <;> first | exact h.elim | skip
      · obtain ⟨xs, rfl, h⟩ := h
        exact ⟨p, xs, rfl, SqT.of upd_same, g own sub_refl _ _ h⟩
      · obtain ⟨xs, rfl, h⟩ := h
        exact ⟨p, xs, rfl, ap, upd_same, g own sub_refl _ _ h⟩
      · obtain ⟨kvs, rfl, hk, h⟩ := h
        exact ⟨p, kvs, rfl, ap, .inl upd_same, hk, g own sub_refl _ _ h⟩
    | uq dp =>
      refine q _ _ (own.res p) (ok.res hp) (same_new hp) (sub_res hp) ?_
      cases z <;> first | exact h.elim | skip
      · obtain ⟨xs, rfl, h⟩ := h
        exact ⟨[], ⟨rfl, p, xs, rfl, SqT.of upd_same, g _ (sub_res hp) _ _ h⟩, fun a h => by cases h⟩
      · obtain ⟨xs, rfl, h⟩ := h
        exact ⟨[p], ⟨p, xs, rfl, rfl, upd_same, g _ (sub_res hp) _ _ h⟩, fun a h => .inr (by simpa using h)⟩
      · obtain ⟨kvs, rfl, hk, h⟩ := h
        exact ⟨[p], ⟨p, kvs, rfl, rfl, upd_same, hk, g _ (sub_res hp) _ _ h⟩, fun a h => .inr (by simpa using h)⟩
    | bo dp =>
      refine q _ _ own (ok.grow (same_new hp)) (same_new hp) sub_refl ?_
      cases z <;> first | exact h.elim | skip
      · obtain ⟨xs, rfl, h⟩ := h
        exact ⟨p, xs, rfl, SqT.of upd_same, g own sub_refl _ _ h⟩
      · obtain ⟨xs, rfl, h⟩ := h
        exact ⟨p, xs, rfl, upd_same, g own sub_refl _ _ h⟩
      · obtain ⟨kvs, rfl, hk, h⟩ := h
        exact ⟨p, kvs, rfl, .inl upd_same, hk, g own sub_refl _ _ h⟩
/-- a rule r for a two-place operation serves op on data -/
def OpS (G : Gb) (fo : Bool → Bool → VF) (r : R2) (op : D → D → Option D) : Prop := ∀ (c : Fr) (O : Addr → Prop) (H : Hp) (x y z : D) (v1 v2 : V) (p1 p2 : Bool) (Q : VK),
  RB G (Av c O p1) H x v1 → RB G (Av c O p2) H y v2 → op x y = some z → Kp G c O H (fo p1 p2) z Q → r v1 v2 H Q
theorem OpS.core {fo : Bool → Bool → VF} {r : R2} {op : D → D → Option D} {ta tb : TE} {ea eb : EvE} (h : OpS G fo r op) (ha : ∀ σ H Q, TEv G W F F1 f1 ea σ H Q → ta σ H Q) (hb : ∀ σ H Q, TEv G W F1 F2 f2 eb σ H Q → tb σ H Q) :
    ∀ σ H Q, TEv G W F F2 (fo f1.dp f2.dp) (eB2 op ea eb) σ H Q → tOp r ta tb σ H Q := by
  rintro σ H Q ⟨c, en, own, ok, m⟩
  refine ha _ _ _ ⟨c, en, own, ok, m.bnd.imp fun x _ mx v1 H1 own1 ok1 s1 b1 r1 => ?_⟩
  refine hb _ _ _ ⟨c, en, own1, ok1, mx.bnd.imp fun y _ my v2 H2 own2 ok2 s2 b2 r2 => ?_⟩
  obtain ⟨z, ez, q⟩ := my.ofO
  exact h c _ H2 x y z v1 v2 _ _ Q (RB.grow r1.b s2 b2) r2.b ez (ok2.kp fun v H3 own3 ok3 s3 b3 r3 => q v H3 own3 ok3 ((s1.trans s2).trans s3) (sub_trans (sub_trans b1 s1 b2) (s1.trans s2) b3) r3)
theorem de_op {o : Operator} {a b : Expr} {pos : Pos} {fo : Bool → Bool → VF} {r : R2} {op : D → D → Option D} {ea eb : EvE} (ho : OpR X (binaryOp o) r) (h : OpS G fo r op) (ha : PE X a (TEv G W F F1 f1 ea)) (hb : PE X b (TEv G W F1 F2 f2 eb)) :
    PE X (.BinOp a o b pos) (TEv G W F F2 (fo f1.dp f2.dp) (eB2 op ea eb)) := pe_imp (pe_op ho ha hb) (h.core (fun _ _ _ z => z) fun _ _ _ z => z)
theorem de_cmp {o : CmpOp} {a b : Expr} {pos : Pos} {fo : Bool → Bool → VF} {r : R2} {op : D → D → Option D} {ea eb : EvE} (ho : OpR X (compareOp o) r) (h : OpS G fo r op) (ha : PE X a (TEv G W F F1 f1 ea)) (hb : PE X b (TEv G W F1 F2 f2 eb)) (hm : behindInMarks o b = false := by rfl) :
    PE X (.Compare a [o] [b] pos) (TEv G W F F2 (fo f1.dp f2.dp) (eB2 op ea eb)) := pe_imp (pe_cmpR ho ha hb hm) (h.core (fun _ _ _ z => z) fun _ _ _ z => z)
/-- as a test -/
def asB : D → Option Bool
  | .bl b => some b
  | _ => none
def tV (ev : EvE) : En → Rs Bool := fun en => bnd (ev en) fun d => ofO (asB d)
theorem tV_core {ev : EvE} {t : TE} (h : ∀ σ H Q, TEv G W F F1 f ev σ H Q → t σ H Q) : ∀ σ H Q, TTv G W F F1 (tV ev) σ H Q → tTest t σ H Q := by
  rintro σ H Q ⟨c, en, own, ok, m⟩
  refine h _ _ _ ⟨c, en, own, ok, m.bnd.imp fun d _ md v H1 own1 ok1 s1 b1 r1 => ?_⟩
  obtain ⟨b, eb, q⟩ := md.ofO
  cases d <;> first | (cases eb; exact ⟨_, r1.bl, q H1 own1 ok1 s1 b1⟩) | cases eb
theorem dt_cmp {o : CmpOp} {a b : Expr} {pos : Pos} {fo : Bool → Bool → VF} {r : R2} {op : D → D → Option D} {ea eb : EvE} (ho : OpR X (compareOp o) r) (h : OpS G fo r op) (ha : PE X a (TEv G W F F1 f1 ea)) (hb : PE X b (TEv G W F1 F2 f2 eb)) (hm : behindInMarks o b = false := by rfl) :
    PT X (.Compare a [o] [b] pos) (TTv G W F F2 (tV (eB2 op ea eb))) := pt_imp (pt_cmpR ho ha hb hm) (tV_core (h.core (fun _ _ _ z => z) fun _ _ _ z => z))
theorem dt_val {e : Expr} {ev : EvE} (he : PE X e (TEv G W F F1 f ev)) (hs : ∀ whole, isTrue e X.env whole = (do let v ← whole; standAt e.pos; holding [v] (truthy v)) := by intro _; rfl) : PT X e (TTv G W F F1 (tV ev)) :=
  pt_imp (pt_val he hs) (tV_core fun _ _ _ z => z)
/-- and, or, not -/
def tNt (t : En → Rs Bool) : En → Rs Bool := fun en => bnd (t en) fun b => .ok (!b)
def tAn (t u : En → Rs Bool) : En → Rs Bool := fun en => bnd (t en) fun b => if b = true then u en else .ok false
def tO (t u : En → Rs Bool) : En → Rs Bool := fun en => bnd (t en) fun b => if b = true then .ok true else u en
theorem dt_not {a : Expr} {pos : Pos} {t : En → Rs Bool} (ha : PT X a (TTv G W F F1 t)) : PT X (.UnaryOp .Not a pos) (TTv G W F F1 (tNt t)) := by
  refine pt_imp (pt_not ha) ?_
  rintro σ H Q ⟨c, en, own, ok, m⟩
  exact ⟨c, en, own, ok, m.bnd.imp fun b _ mb H1 own1 ok1 s1 b1 => mb H1 own1 ok1 s1 b1⟩
theorem dw_and1 {a : Expr} {pos : Pos} {t : En → Rs Bool} (ha : PT X a (TTv G W F F1 t)) : PW X (.BoolOp .And [a] pos) (TTv G W F F1 t) := pw_and1 ha
theorem dw_or1 {a : Expr} {pos : Pos} {t : En → Rs Bool} (ha : PT X a (TTv G W F F1 t)) : PW X (.BoolOp .Or [a] pos) (TTv G W F F1 t) := pw_or1 ha
theorem pw_imp {X : Cx} {e : Expr} {t t' : TT} (h : PW X e t) (m : ∀ σ H Q, t' σ H Q → t σ H Q) : PW X e t' := ⟨fun wh pins s σ H Q I q => h.run wh pins s σ H Q I (m σ H Q q)⟩
/-- the tests of and, or: flags at the end must agree; nothing is moved within them -/
theorem dw_and {a b : Expr} {rest : List Expr} {pos : Pos} {t u : En → Rs Bool} (ha : PT X a (TTv G W F F t)) (hb : PW X (.BoolOp .And (b :: rest) pos) (TTv G W F F u)) : PW X (.BoolOp .And (a :: b :: rest) pos) (TTv G W F F (tAn t u)) := by
  refine pw_imp (pw_and ha hb) ?_
  rintro σ H Q ⟨c, en, own, ok, m⟩
  refine ⟨c, en, own, ok, m.bnd.imp fun b _ mb H1 own1 ok1 s1 b1 => ?_⟩
  cases b with
  | true =>
    refine iteT ⟨c, en, own1, ok1, ?_⟩
    rw [if_pos rfl] at mb
    exact mb.imp fun x _ q H2 own2 ok2 s2 b2 => q H2 own2 ok2 (s1.trans s2) (sub_trans b1 s1 b2)
  | false =>
    rw [if_neg (by decide)] at mb
    exact iteF (mb H1 own1 ok1 s1 b1)
theorem dw_or {a b : Expr} {rest : List Expr} {pos : Pos} {t u : En → Rs Bool} (ha : PT X a (TTv G W F F t)) (hb : PW X (.BoolOp .Or (b :: rest) pos) (TTv G W F F u)) : PW X (.BoolOp .Or (a :: b :: rest) pos) (TTv G W F F (tO t u)) := by
  refine pw_imp (pw_or ha hb) ?_
  rintro σ H Q ⟨c, en, own, ok, m⟩
  refine ⟨c, en, own, ok, m.bnd.imp fun b _ mb H1 own1 ok1 s1 b1 => ?_⟩
  cases b with
  | true =>
    rw [if_pos rfl] at mb
    exact iteT (mb H1 own1 ok1 s1 b1)
  | false =>
    refine iteF ⟨c, en, own1, ok1, ?_⟩
    rw [if_neg (by decide)] at mb
    exact mb.imp fun x _ q H2 own2 ok2 s2 b2 => q H2 own2 ok2 (s1.trans s2) (sub_trans b1 s1 b2)
theorem dt_w {e : Expr} {t : En → Rs Bool} (h : PW X e (TTv G W F F1 t)) : PT X e (TTv G W F F1 t) := h.pt
/-- .. as values -/
def eAn (a b : EvE) : EvE := fun en => bnd (a en) fun d => bnd (ofO (asB d)) fun c => if c = true then b en else .ok (.bl false)
def eOr (a b : EvE) : EvE := fun en => bnd (a en) fun d => bnd (ofO (asB d)) fun c => if c = true then .ok (.bl true) else b en
def eNt (a : EvE) : EvE := fun en => bnd (a en) fun d => bnd (ofO (asB d)) fun c => .ok (.bl (!c))
theorem de_one {op} {a : Expr} {pos : Pos} {ev : EvE} (h : PE X a (TEv G W F F1 f ev)) : PE X (.BoolOp op [a] pos) (TEv G W F F1 f ev) := pe_one h
theorem de_and {a b : Expr} {rest : List Expr} {pos : Pos} {ea eb : EvE} (ha : PE X a (TEv G W F F f1 ea)) (hb : PE X (.BoolOp .And (b :: rest) pos) (TEv G W F F f2 eb)) : PE X (.BoolOp .And (a :: b :: rest) pos) (TEv G W F F f2 (eAn ea eb)) := by
  refine pe_imp (pe_and ha hb) ?_
  rintro σ H Q ⟨c, en, own, ok, m⟩
  refine ⟨c, en, own, ok, m.bnd.imp fun x _ mx v1 H1 own1 ok1 s1 b1 r1 => ?_⟩
  obtain ⟨b, eb', q⟩ := mx.bnd.ofO
  cases x <;> first | cases eb' | skip
  refine ⟨_, r1.bl, ?_⟩
  cases b with
  | true =>
    rw [if_pos rfl] at q
    exact iteT ⟨c, en, own1, ok1, q.imp fun y _ q v2 H2 own2 ok2 s2 b2 r2 => q v2 H2 own2 ok2 (s1.trans s2) (sub_trans b1 s1 b2) r2⟩
  | false =>
    rw [if_neg (by decide)] at q
    exact iteF (q _ H1 own1 ok1 s1 b1 (RV.mkB false))
theorem de_or {a b : Expr} {rest : List Expr} {pos : Pos} {ea eb : EvE} (ha : PE X a (TEv G W F F f1 ea)) (hb : PE X (.BoolOp .Or (b :: rest) pos) (TEv G W F F f2 eb)) : PE X (.BoolOp .Or (a :: b :: rest) pos) (TEv G W F F f2 (eOr ea eb)) := by
  refine pe_imp (pe_or ha hb) ?_
  rintro σ H Q ⟨c, en, own, ok, m⟩
  refine ⟨c, en, own, ok, m.bnd.imp fun x _ mx v1 H1 own1 ok1 s1 b1 r1 => ?_⟩
  obtain ⟨b, eb', q⟩ := mx.bnd.ofO
  cases x <;> first | cases eb' | skip
  refine ⟨_, r1.bl, ?_⟩
  cases b with
  | true =>
    rw [if_pos rfl] at q
    exact iteT (q _ H1 own1 ok1 s1 b1 (RV.mkB true))
  | false =>
    rw [if_neg (by decide)] at q
    exact iteF ⟨c, en, own1, ok1, q.imp fun y _ q v2 H2 own2 ok2 s2 b2 r2 => q v2 H2 own2 ok2 (s1.trans s2) (sub_trans b1 s1 b2) r2⟩
theorem de_not {a : Expr} {pos : Pos} {ea : EvE} (ha : PE X a (TEv G W F F1 f1 ea)) : PE X (.UnaryOp .Not a pos) (TEv G W F F1 (.uq true) (eNt ea)) := by
  refine pe_imp (pe_not ha) ?_
  rintro σ H Q ⟨c, en, own, ok, m⟩
  refine ⟨c, en, own, ok, m.bnd.imp fun x _ mx v1 H1 own1 ok1 s1 b1 r1 => ?_⟩
  obtain ⟨b, eb', q⟩ := mx.bnd.ofO
  cases x <;> first | cases eb' | skip
  exact ⟨_, r1.bl, q _ H1 own1 ok1 s1 b1 (RV.mkB _)⟩
/-! ### argument lists -/
def aNil : En → Rs (List D) := fun _ => .ok []
def aCons (a : EvE) (r : En → Rs (List D)) : En → Rs (List D) := fun en => bnd (a en) fun d => bnd (r en) fun ds => .ok (d :: ds)
theorem da_nil : PA X [] (TAv G W F F [] aNil) := by
  refine pa_imp pa_nil ?_
  rintro σ H Q ⟨c, en, own, ok, m⟩
  exact m [] H own ok (Same.refl H) sub_refl ⟨rfl, rfl⟩
theorem RV.arg {d : D} {v : V} (ok : Ok G c F en own σ H) (h : RV G c own H f d v) : ∃ own', Ok G c F en own' σ H ∧ (∀ a, ow own' a → ow own a) ∧ RA G c (ow own') H f d v := by
  cases f with
  | sh dp => exact ⟨own, ok, fun _ h => h, h⟩
  | uq dp => exact RV.share ok h rfl
  | bo dp => exact ⟨own, ok, fun _ h => h, h⟩
theorem da_cons {e : Expr} {es : List Expr} {fs : List VF} {ea : EvE} {er : En → Rs (List D)} (ha : PE X e (TEv G W F F1 f1 ea)) (hr : PA X es (TAv G W F1 F2 fs er)) (hs : starEach (e :: es) X.env = (false, eval e X.env) :: starEach es X.env := by rfl) :
    PA X (e :: es) (TAv G W F F2 (f1 :: fs) (aCons ea er)) := by
  refine pa_imp (pa_cons ha hr hs) ?_
  rintro σ H Q ⟨c, en, own, ok, m⟩
  refine ⟨c, en, own, ok, m.bnd.imp fun x _ mx v1 H1 own1 ok1 s1 b1 r1 => ?_⟩
  obtain ⟨own1', ok1', k1, a1⟩ := RV.arg ok1 r1
  refine ⟨c, en, own1', ok1', mx.bnd.imp fun ds _ q vs H2 own2 ok2 s2 b2 r2 => ?_⟩
  have b1' : Sub (ow own) (ow own1') H := fun a h => b1 a (k1 a h)
  exact q (v1 :: vs) H2 own2 ok2 (s1.trans s2) (sub_trans b1' s1 b2) ⟨x, ds, v1, vs, rfl, rfl, a1.up s2 b2, r2⟩
end
end Pi
namespace Pi
open PySem PySem.Spec PyProof.Rows L2
theorem opr_or {X : Cx} {f : Value → Value → Sem Value} {r1 r2 : R2} (h1 : OpR X f r1) (h2 : OpR X f r2) : OpR X f (fun x y H Q => r1 x y H Q ∨ r2 x y H Q) := by
  intro pins s σ H x y v u Q I rx ry h
  rcases h with h | h
  · exact h1 pins s σ H x y v u Q I rx ry h
  · exact h2 pins s σ H x y v u Q I rx ry h
section
variable {G : Gb} {c : Fr} {O : Addr → Prop} {H : Hp}
theorem RL.an {A A' : Addr → Prop} {l : List D} {xs : List V} (h : RL G A H l xs) (m : ∀ a, A a → A' a) : RL G A' H l xs := RL.up (Up.same (Same.refl H) m) l h
theorem R.an {A A' : Addr → Prop} {d : D} {v : V} (h : R G A H d v) (m : ∀ a, A a → A' a) : R G A' H d v := R.up (Up.same (Same.refl H) m) d h
end
section
variable {G : Gb} {c : Fr} {O : Addr → Prop} {H : Hp} {f : VF} {Q : VK}
theorem Kp.fl {z : D} {v : V} (k : Kp G c O H f z Q) (h : R G (fun _ => True) H z v) (hf : flat z = true) : Q v H := k.old v (by
  cases f with
  | sh dp => exact R.flat z hf h
  | uq dp => exact ⟨hf, h⟩
  | bo dp => exact (R.flat (A' := Av c O dp) z hf h).b)
theorem Kp.int {i : Int} (k : Kp G c O H f (.int i) Q) : Q (.int i) H := k.fl rfl rfl
theorem Kp.bl {i : Bool} (k : Kp G c O H f (.bl i) Q) : Q (.bl i) H := k.fl rfl rfl
theorem Kp.str {i : Str} (k : Kp G c O H f (.str i) Q) : Q (.str i) H := k.fl rfl rfl
theorem Kp.non (k : Kp G c O H f .non Q) : Q .non H := k.fl rfl rfl
end
/-! ### int, text, list operators -/
def oAdd : D → D → Option D
  | .int i, .int j => some (.int (i + j))
  | .str x, .str y => if x.length + y.length ≤ sizeLine then some (.str (x ++ y)) else none
  | .lst l, .lst m => if l.length + m.length ≤ sizeLine then some (.lst (l ++ m)) else none
  | _, _ => none
def rAdd3 : R2 := fun x y H Q => (rI0 (fun i j => V.int (i + j)) x y H Q) ∨ (∃ i j, x = .str i ∧ y = .str j ∧ i.length + j.length ≤ sizeLine ∧ Q (.str (i ++ j)) H) ∨ rCat x y H Q
theorem opr_add {X : Cx} : OpR X (binaryOp .Add) rAdd3 := opr_or op_add (opr_or op_add_str op_cat)
abbrev foA : Bool → Bool → VF := fun p q => .uq (p && q)
abbrev foT : Bool → Bool → VF := fun _ _ => .uq true
theorem ops_add {G : Gb} : OpS G foA rAdd3 oAdd := by
  intro c O H x y z v1 v2 p1 p2 Q h1 h2 e q
  cases x with
  | int i =>
    cases y <;> first | (simp [oAdd] at e; done) | skip
    cases e
    exact .inl ⟨i, _, h1, h2, q.int⟩
  | str i =>
    cases y <;> first | (simp [oAdd] at e; done) | skip
    rename_i j
    simp only [oAdd] at e
    split at e
    · cases e
      exact .inr (.inl ⟨i, j, h1, h2, by assumption, q.str⟩)
    · cases e
  | lst l =>
    cases y <;> first | (simp [oAdd] at e; done) | skip
    rename_i m
    simp only [oAdd] at e
    split at e
    · rename_i hl
      cases e
      obtain ⟨a, xs, rfl, e1, r1⟩ := h1
      obtain ⟨b, ys, rfl, e2, r2⟩ := h2
      refine .inr (.inr ⟨a, b, xs, ys, rfl, rfl, e1, e2, by rw [r1.len, r2.len]; exact hl, fun p hp => q.new p _ hp ⟨_, rfl, RL.app ?_ ?_⟩⟩)
      · exact r1.an fun a h => h.dpand p2
      · exact r2.an fun a h => h.dpand' p1
    · cases e
  | _ => simp [oAdd] at e
def oI (g : Int → Int → Option Int) : D → D → Option D
  | .int i, .int j => (g i j).map .int
  | _, _ => none
theorem ops_I {G : Gb} {C : Int → Int → Prop} {g : Int → Int → Option Int} {g' : Int → Int → Int} (h : ∀ i j z, g i j = some z → C i j ∧ z = g' i j) : OpS G foT (rI C fun i j => .int (g' i j)) (oI g) := by
  intro c O H x y z v1 v2 p1 p2 Q h1 h2 e q
  cases x <;> first | (simp [oI] at e; done) | skip
  cases y <;> first | (simp [oI] at e; done) | skip
  rename_i i j
  simp only [oI, Option.map_eq_some_iff] at e
  obtain ⟨z', e1, rfl⟩ := e
  obtain ⟨h3, rfl⟩ := h i j z' e1
  exact ⟨i, j, h1, h2, h3, q.int⟩
theorem opr_sub {X : Cx} : OpR X (binaryOp .Sub) (rI (fun _ _ => True) fun i j => .int (i - j)) := opI fun _ _ _ _ _ _ _ _ q => sub_int q
def oSub : D → D → Option D := oI fun i j => some (i - j)
theorem ops_sub {G : Gb} : OpS G foT (rI (fun _ _ => True) fun i j => .int (i - j)) oSub := ops_I fun i j z e => ⟨trivial, (Option.some.inj e).symm⟩
/-- what a product may be: one factor short, or both together below a hundred million bits -/
def mulOk (i j : Int) : Bool := decide (i.natAbs < 18446744073709551616) || decide (j.natAbs < 18446744073709551616) || decide (i.natAbs.log2 + j.natAbs.log2 < 100000000)
theorem mulOk_ok {i j : Int} (h : mulOk i j = true) : IntMulOk i j := by
  unfold mulOk at h
  simp only [Bool.or_eq_true, decide_eq_true_eq] at h
  rcases h with (h | h) | h
  · exact .of_left (intBits_le_64 (by omega) (by omega))
  · exact .of_right (intBits_le_64 (by omega) (by omega))
  · have b : ∀ x : Int, Builtin.Int.intBits x ≤ x.natAbs.log2 + 1 := fun x => by
      unfold Builtin.Int.intBits
      split <;> omega
    have h1 := b i
    have h2 := b j
    have e : bitsLine = 134217728 := by decide
    unfold IntMulOk
    intro z
    rw [Bool.and_eq_true] at z
    have z2 := z.2
    unfold Builtin.Int.intTooBig at z2
    have z3 := of_decide_eq_true z2
    rw [e] at z3
    omega
def oMul : D → D → Option D
  | .int i, .int j => if mulOk i j = true then some (.int (i * j)) else none
  | .lst l, .int j => if j.toNat < 1048576 ∧ l.length * j.toNat ≤ sizeLine ∧ -1048576 ≤ j then some (.lst (List.replicate j.toNat l).flatten) else none
  | _, _ => none
theorem opr_mul {X : Cx} : OpR X (binaryOp .Mult) (fun x y H Q => rI IntMulOk (fun i j => .int (i * j)) x y H Q ∨ rRep x y H Q) := opr_or (opI fun _ _ _ _ _ _ _ hc q => mul_int q hc) op_rep
theorem RL.rep {G : Gb} {A : Addr → Prop} {H : Hp} {l : List D} {xs : List V} (h : RL G A H l xs) : ∀ n : Nat, RL G A H (List.replicate n l).flatten (List.replicate n xs).flatten
  | 0 => rfl
  | n + 1 => by
    rw [List.replicate_succ, List.replicate_succ, List.flatten_cons, List.flatten_cons]
    exact RL.app h (RL.rep h n)
theorem ops_mul {G : Gb} : OpS G foA (fun x y H Q => rI IntMulOk (fun i j => .int (i * j)) x y H Q ∨ rRep x y H Q) oMul := by
  intro c O H x y z v1 v2 p1 p2 Q h1 h2 e q
  cases x with
  | int i =>
    cases y <;> first | (simp [oMul] at e; done) | skip
    rename_i j
    simp only [oMul] at e
    split at e
    · rename_i hm
      cases e
      exact .inl ⟨i, j, h1, h2, mulOk_ok hm, q.int⟩
    · cases e
  | lst l =>
    cases y <;> first | (simp [oMul] at e; done) | skip
    rename_i j
    simp only [oMul] at e
    split at e
    · rename_i hl
      cases e
      obtain ⟨a, xs, rfl, e1, r1⟩ := h1
      refine .inr ⟨a, j, xs, rfl, h2, e1, by omega, by omega, by rw [r1.len]; exact hl.2.1, fun p hp => q.new p _ hp ⟨_, rfl, RL.rep ?_ _⟩⟩
      exact r1.an fun a h => h.dpand p2
    · cases e
  | _ => simp [oMul] at e
def oMod : D → D → Option D := oI fun i j => if j = 0 then none else some (i.fmod j)
theorem ops_mod {G : Gb} : OpS G foT (rI (fun _ j => j ≠ 0) fun i j => .int (i.fmod j)) oMod := ops_I fun i j z e => by
  split at e
  · cases e
  · rename_i h; exact ⟨h, (Option.some.inj e).symm⟩
/-- // by a number other than 0, below 2 ^ 9000, or with a quotient that is not too long -/
def divOk (i j : Int) : Bool := decide (j ≠ 0) && (decide (j.natAbs.log2 < 9000) || !Builtin.divisionGoesByPylong i j)
theorem opr_div {X : Cx} : OpR X (binaryOp .FloorDiv) (rI (fun i j => divOk i j = true) fun i j => .int (i.fdiv j)) := opI fun i j _ _ _ _ _ hc q => by
  have h : j ≠ 0 ∧ (j.natAbs.log2 < 9000 ∨ Builtin.divisionGoesByPylong i j = false) := by simpa [divOk] using hc
  exact floordiv_int h.1 q (.inl (h.2.elim PyProof.noPylong_of_log2 id))
def oDiv : D → D → Option D := oI fun i j => if divOk i j = true then some (i.fdiv j) else none
theorem ops_div {G : Gb} : OpS G foT (rI (fun i j => divOk i j = true) fun i j => .int (i.fdiv j)) oDiv := ops_I fun i j z e => by
  split at e
  · rename_i h; exact ⟨h, (Option.some.inj e).symm⟩
  · cases e
def oPow : D → D → Option D := oI fun i j => if 0 ≤ j ∧ j ≤ 1000000 ∧ i.natAbs < 18446744073709551616 then some (i ^ j.toNat) else none
theorem ops_pow {G : Gb} : OpS G foT (rI CPow fun i j => .int (i ^ j.toNat)) oPow := ops_I fun i j z e => by
  split at e
  · rename_i h; exact ⟨⟨h.1, h.2.1, h.2.2⟩, (Option.some.inj e).symm⟩
  · cases e
end Pi
namespace Pi
open PySem PySem.Spec PyProof.Rows L2
/-! ### plain data: numbers, truths, None, texts, tuples and lists of these -/
mutual
def toP : D → PyData
  | .non => .none
  | .bl b => .bool b
  | .int i => .int i
  | .str x => .str x
  | .tup l => .tuple (toPL l)
  | .lst l => .list (toPL l)
  | _ => .none
def toPL : List D → List PyData
  | [] => []
  | d :: l => toP d :: toPL l
end
mutual
/-- plain, and no deeper than n -/
def pl : D → Nat → Bool
  | .non, _ => true
  | .bl _, _ => true
  | .int _, _ => true
  | .str _, _ => true
  | .tup l, n => match n with
    | 0 => false
    | n + 1 => plL l n
  | .lst l, n => match n with
    | 0 => false
    | n + 1 => plL l n
  | _, _ => false
def plL : List D → Nat → Bool
  | [], _ => true
  | d :: l, n => pl d n && plL l n
end
theorem toPL_map : ∀ l : List D, toPL l = l.map toP
  | [] => rfl
  | _ :: l => congrArg _ (toPL_map l)
theorem plL_all : ∀ (l : List D) (n : Nat), plL l n = l.all fun d => pl d n
  | [], _ => rfl
  | d :: l, n => by rw [plL, List.all_cons, plL_all l n]
mutual
theorem pl_plain : ∀ (d : D) (n : Nat), pl d n = true → (toP d).plain = true ∧ (toP d).depth ≤ n
  | .non, n, _ => ⟨rfl, by simp [toP, PyData.depth]⟩
  | .bl _, n, _ => ⟨rfl, by simp [toP, PyData.depth]⟩
  | .int _, n, _ => ⟨rfl, by simp [toP, PyData.depth]⟩
  | .str _, n, _ => ⟨rfl, by simp [toP, PyData.depth]⟩
  | .tup l, n, h => by
    cases n with
    | zero => simp [pl] at h
    | succ n =>
      have q := plL_plain l n (by simpa [pl] using h)
      exact ⟨by simpa [toP, PyData.plain] using q.1, by simp [toP, PyData.depth]; exact q.2⟩
  | .lst l, n, h => by
    cases n with
    | zero => simp [pl] at h
    | succ n =>
      have q := plL_plain l n (by simpa [pl] using h)
      exact ⟨by simpa [toP, PyData.plain] using q.1, by simp [toP, PyData.depth]; exact q.2⟩
theorem plL_plain : ∀ (l : List D) (n : Nat), plL l n = true → PyData.plainAll (toPL l) = true ∧ PyData.depthAll (toPL l) ≤ n
  | [], n, _ => ⟨rfl, by simp [toPL, PyData.depthAll]⟩
  | d :: l, n, h => by
    have h' : pl d n = true ∧ plL l n = true := by simpa [plL] using h
    have q1 := pl_plain d n h'.1
    have q2 := plL_plain l n h'.2
    refine ⟨by simp [toPL, PyData.plainAll, q1.1, q2.1], ?_⟩
    simp only [toPL, PyData.depthAll]
    omega
end
section
variable {G : Gb} {A : Addr → Prop} {H : Hp}
theorem pl_tup {l : List D} {n : Nat} (h : pl (.tup l) n = true) : ∃ m, plL l m = true := by
  cases n with
  | zero => simp [pl] at h
  | succ n => exact ⟨n, by simpa [pl] using h⟩
theorem pl_lst {l : List D} {n : Nat} (h : pl (.lst l) n = true) : ∃ m, plL l m = true := by
  cases n with
  | zero => simp [pl] at h
  | succ n => exact ⟨n, by simpa [pl] using h⟩
mutual
theorem R.dp : ∀ (d : D), (∃ n, pl d n = true) → ∀ v : V, R G A H d v → Dp G.K H v (toP d)
  | .non, _, _, h => by rw [show _ = V.non from h]; exact .non
  | .bl b, _, _, h => by rw [show _ = V.bl b from h]; exact .bl b
  | .int i, _, _, h => by rw [show _ = V.int i from h]; exact .int i
  | .str x, _, _, h => by rw [show _ = V.str x from h]; exact .str x
  | .tup l, hp, v, h => by
    obtain ⟨a, xs, e, h1, h2⟩ := h
    rw [e]
    exact .tup h1 (RL.dp l (hp.elim fun _ h => pl_tup h) xs h2)
  | .lst l, hp, v, h => by
    obtain ⟨a, xs, e, _, h1, h2⟩ := h
    rw [e]
    exact .lst (SqL.of h1) (RL.dp l (hp.elim fun _ h => pl_lst h) xs h2)
  | .dct _ _, hp, _, _ => by obtain ⟨n, h⟩ := hp; simp [pl] at h
  | .obj _ _, hp, _, _ => by obtain ⟨n, h⟩ := hp; simp [pl] at h
  | .exc _, hp, _, _ => by obtain ⟨n, h⟩ := hp; simp [pl] at h
  | .scr _, hp, _, _ => by obtain ⟨n, h⟩ := hp; simp [pl] at h
termination_by structural d => d
theorem RL.dp : ∀ (l : List D), (∃ n, plL l n = true) → ∀ xs : List V, RL G A H l xs → DpAll G.K H xs (toPL l)
  | [], _, _, h => by rw [show _ = [] from h]; exact .nil
  | d :: l, hp, xs, h => by
    obtain ⟨x, r, e, h1, h2⟩ := h
    rw [e]
    exact .cons (R.dp d (hp.elim fun n h => ⟨n, by simp only [plL, Bool.and_eq_true] at h; exact h.1⟩) x h1) (RL.dp l (hp.elim fun n h => ⟨n, by simp only [plL, Bool.and_eq_true] at h; exact h.2⟩) r h2)
termination_by structural l => l
end
theorem RB.dp {d : D} {v : V} (n : Nat) (h : RB G A H d v) (hp : pl d n = true) : Dp G.K H v (toP d) := R.dp d ⟨n, hp⟩ v h.r
end
/-! ### == and != -/
def oEq : D → D → Option D := fun x y => if pl x 60 = true ∧ pl y 60 = true then some (.bl (PyData.eqv (toP x) (toP y))) else none
def oNe : D → D → Option D := fun x y => if pl x 60 = true ∧ pl y 60 = true then some (.bl (!PyData.eqv (toP x) (toP y))) else none
def rEqP (K : PySem.W.Frag) (neg : Bool) : R2 := fun x y H Q => ∃ d e, Dp K H x d ∧ Dp K H y e ∧ d.plain = true ∧ e.plain = true ∧ d.depth ≤ 60 ∧ Q (.bl (if neg then !PyData.eqv d e else PyData.eqv d e)) H
theorem opr_eq {X : Cx} (hu : X.A.units + 64 < cLine) : OpR X (compareOp .Eq) (rEqP X.K false) := by
  intro pins s σ H x y v u Q I rx ry h
  obtain ⟨d, e, hd, he, sd, se, dd, q⟩ := h
  obtain ⟨as, r1⟩ := Dp.reads I d x v hd rx
  obtain ⟨bs, r2⟩ := Dp.reads I e y u he ry
  exact SeqAt.eq_plain r1 r2 sd se (by have := Nat.min_le_left d.depth e.depth; omega) ⟨.bl _, H, I, rfl, q⟩
theorem opr_ne {X : Cx} (hu : X.A.units + 64 < cLine) : OpR X (compareOp .NotEq) (rEqP X.K true) := by
  intro pins s σ H x y v u Q I rx ry h
  obtain ⟨d, e, hd, he, sd, se, dd, q⟩ := h
  obtain ⟨as, r1⟩ := Dp.reads I d x v hd rx
  obtain ⟨bs, r2⟩ := Dp.reads I e y u he ry
  exact SeqAt.ne_plain r1 r2 sd se (by have := Nat.min_le_left d.depth e.depth; omega) ⟨.bl _, H, I, rfl, q⟩
theorem ops_eq {G : Gb} : OpS G foT (rEqP G.K false) oEq := by
  intro c O H x y z v1 v2 p1 p2 Q h1 h2 e q
  unfold oEq at e
  split at e
  · rename_i hp
    cases e
    have a := pl_plain x 60 hp.1
    have b := pl_plain y 60 hp.2
    exact ⟨_, _, h1.dp 60 hp.1, h2.dp 60 hp.2, a.1, b.1, a.2, q.bl⟩
  · cases e
theorem ops_ne {G : Gb} : OpS G foT (rEqP G.K true) oNe := by
  intro c O H x y z v1 v2 p1 p2 Q h1 h2 e q
  unfold oNe at e
  split at e
  · rename_i hp
    cases e
    have a := pl_plain x 60 hp.1
    have b := pl_plain y 60 hp.2
    exact ⟨_, _, h1.dp 60 hp.1, h2.dp 60 hp.2, a.1, b.1, a.2, q.bl⟩
  · cases e
/-! ### < <= > >= of whole numbers -/
def oCI (p : Int → Int → Bool) : D → D → Option D
  | .int i, .int j => some (.bl (p i j))
  | _, _ => none
theorem ops_CI {G : Gb} (p : Int → Int → Bool) : OpS G foT (rI0 fun i j => .bl (p i j)) (oCI p) := by
  intro c O H x y z v1 v2 p1 p2 Q h1 h2 e q
  cases x <;> first | (simp [oCI] at e; done) | skip
  cases y <;> first | (simp [oCI] at e; done) | skip
  cases e
  exact ⟨_, _, h1, h2, q.bl⟩
abbrev oLt := oCI fun i j => decide (i < j)
abbrev oLe := oCI fun i j => decide (i ≤ j)
abbrev oGt := oCI fun i j => decide (j < i)
abbrev oGe := oCI fun i j => decide (j ≤ i)
/-! ### in, not in: a list or tuple of plain data -/
def elems : D → Option (List D)
  | .lst l => some l
  | .tup l => some l
  | _ => none
def oInS (neg : Bool) : D → D → Option D := fun x y => match elems y with
  | some l => if pl x 40 = true ∧ plL l 40 = true then some (.bl (xor neg (l.any fun e => PyData.eqv (toP e) (toP x)))) else none
  | none => none
def rInP (K : PySem.W.Frag) (neg : Bool) : R2 := fun x y H Q => ∃ d xs, Dp K H x d ∧ (Dp K H y (.list xs) ∨ Dp K H y (.tuple xs)) ∧ d.plain = true ∧ PyData.plainAll xs = true ∧ d.depth ≤ 40 ∧ Q (.bl (xor neg (xs.any fun y => PyData.eqv y d))) H
theorem opr_in {X : Cx} (hu : X.A.units + 64 < cLine) : OpR X (compareOp .In) (rInP X.K false) := by
  intro pins s σ H x y v u Q I rx ry h
  obtain ⟨d, xs, hd, he, sd, se, dd, q⟩ := h
  obtain ⟨as, r1⟩ := Dp.reads I d x v hd rx
  have hr : X.A.units + 1 + min (PyData.depthAll xs) d.depth < cLine := by have := Nat.min_le_right (PyData.depthAll xs) d.depth; omega
  rw [Bool.false_xor] at q
  rcases he with he | he
  · obtain ⟨bs, r2⟩ := Dp.reads I _ y u he ry
    exact SeqAt.in_list_data r2 r1 se sd hr ⟨.bl _, H, I, rfl, q⟩
  · obtain ⟨bs, r2⟩ := Dp.reads I _ y u he ry
    exact SeqAt.in_tuple_data r2 r1 se sd hr ⟨.bl _, H, I, rfl, q⟩
theorem opr_notin {X : Cx} (hu : X.A.units + 64 < cLine) : OpR X (compareOp .NotIn) (rInP X.K true) := by
  intro pins s σ H x y v u Q I rx ry h
  obtain ⟨d, xs, hd, he, sd, se, dd, q⟩ := h
  obtain ⟨as, r1⟩ := Dp.reads I d x v hd rx
  have hr : X.A.units + 1 + min (PyData.depthAll xs) d.depth < cLine := by have := Nat.min_le_right (PyData.depthAll xs) d.depth; omega
  rw [Bool.true_xor] at q
  rcases he with he | he
  · obtain ⟨bs, r2⟩ := Dp.reads I _ y u he ry
    exact SeqAt.notIn_list_data r2 r1 se sd hr ⟨.bl _, H, I, rfl, q⟩
  · obtain ⟨bs, r2⟩ := Dp.reads I _ y u he ry
    exact SeqAt.notIn_tuple_data r2 r1 se sd hr ⟨.bl _, H, I, rfl, q⟩
theorem ops_in {G : Gb} (neg : Bool) : OpS G foT (rInP G.K neg) (oInS neg) := by
  intro c O H x y z v1 v2 p1 p2 Q h1 h2 e q
  unfold oInS at e
  have an : ∀ l : List D, (l.any fun e => PyData.eqv (toP e) (toP x)) = ((toPL l).any fun y => PyData.eqv y (toP x)) := fun l => by rw [toPL_map, List.any_map]; rfl
  cases y <;> first | (simp [elems] at e; done) | skip
  · simp only [elems] at e
    split at e
    · rename_i l hp
      cases e
      have a := pl_plain x 40 hp.1
      obtain ⟨b, xs, e0, e1, r1⟩ := h2
      refine ⟨_, toPL l, h1.dp 40 hp.1, .inr ?_, a.1, (plL_plain l 40 hp.2).1, a.2, ?_⟩
      · rw [e0]
        exact .tup e1 (RL.dp l ⟨40, hp.2⟩ _ r1)
      · rw [an] at q
        exact q.bl
    · cases e
  · simp only [elems] at e
    split at e
    · rename_i l hp
      cases e
      have a := pl_plain x 40 hp.1
      obtain ⟨b, xs, e0, e1, r1⟩ := h2
      refine ⟨_, toPL l, h1.dp 40 hp.1, .inl ?_, a.1, (plL_plain l 40 hp.2).1, a.2, ?_⟩
      · rw [e0]
        exact .lst (SqL.of e1) (RL.dp l ⟨40, hp.2⟩ _ r1)
      · rw [an] at q
        exact q.bl
    · cases e
/-- a sign in a text -/
def oInT (neg : Bool) : D → D → Option D
  | .str x, .str y => match x.cps.toList with
    | [c] => some (.bl (xor neg (decide (c ∈ y.cps.toList))))
    | _ => none
  | _, _ => none
/-! ### is None, is True .. -/
def oIsN (neg : Bool) : D → D → Option D
  | .bl a, .bl b => some (.bl (xor neg (decide (a = b))))
  | .non, .non => some (.bl (xor neg true))
  | .exc _, .non => none
  | _, .non => some (.bl (xor neg false))
  | _, _ => none
def rIsA (neg : Bool) : R2 := fun x y H Q => (y = .non ∧ Q (.bl (xor neg (decide (x = .non)))) H) ∨ ∃ a b, x = .bl a ∧ y = .bl b ∧ Q (.bl (xor neg (decide (a = b)))) H
end Pi
namespace Pi
open PySem PySem.Spec PyProof.Rows L2
/-! ### is, is not -/
theorem opr_is {X : Cx} : OpR X (compareOp .Is) (rIsA false) := by
  refine opr_or (r1 := fun x y H Q => y = .non ∧ Q (.bl (xor false (decide (x = .non)))) H) (r2 := fun x y H Q => ∃ a b, x = .bl a ∧ y = .bl b ∧ Q (.bl (xor false (decide (a = b)))) H) ?_ ?_
  · intro pins s σ H x y v u Q I rx ry h
    exact op_isN pins s σ H x y v u Q I rx ry (by simpa using h)
  · intro pins s σ H x y v u Q I rx ry h
    exact op_is_bl pins s σ H x y v u Q I rx ry (by simpa using h)
theorem opr_isnot {X : Cx} : OpR X (compareOp .IsNot) (rIsA true) := by
  refine opr_or (r1 := fun x y H Q => y = .non ∧ Q (.bl (xor true (decide (x = .non)))) H) (r2 := fun x y H Q => ∃ a b, x = .bl a ∧ y = .bl b ∧ Q (.bl (xor true (decide (a = b)))) H) ?_ ?_
  · intro pins s σ H x y v u Q I rx ry h
    exact op_notN pins s σ H x y v u Q I rx ry (by simpa using h)
  · intro pins s σ H x y v u Q I rx ry h
    exact op_isnot_bl pins s σ H x y v u Q I rx ry (by simpa using h)
def isNonB : D → Bool
  | .non => true
  | _ => false
theorem RB.nn {G : Gb} {A : Addr → Prop} {H : Hp} {d : D} {v : V} (h : RB G A H d v) : decide (v = .non) = isNonB d := by
  cases d with
  | non => rw [show v = .non from h]; rfl
  | bl b => rw [show v = .bl b from h]; rfl
  | int b => rw [show v = .int b from h]; rfl
  | str b => rw [show v = .str b from h]; rfl
  | tup l => obtain ⟨a, xs, e, _⟩ := h; rw [e]; rfl
  | lst l => obtain ⟨a, xs, e, _⟩ := h; rw [e]; rfl
  | dct ks l => obtain ⟨a, xs, e, _⟩ := h; rw [e]; rfl
  | obj k l => obtain ⟨a, dx, fs, e, _⟩ := h; rw [e]; rfl
  | exc k => exact h.elim
  | scr l => obtain ⟨a, e, _⟩ := h; rw [e]; rfl
def oIs (neg : Bool) : D → D → Option D
  | x, .non => some (.bl (xor neg (isNonB x)))
  | .bl a, .bl b => some (.bl (xor neg (decide (a = b))))
  | _, _ => none
theorem ops_is {G : Gb} (neg : Bool) : OpS G foT (rIsA neg) (oIs neg) := by
  intro c O H x y z v1 v2 p1 p2 Q h1 h2 e q
  cases y with
  | non =>
    have hn := h1.nn
    have e2 : oIs neg x .non = some (.bl (xor neg (isNonB x))) := by cases x <;> rfl
    rw [e2] at e
    cases e
    refine .inl ⟨h2, ?_⟩
    rw [hn]
    exact q.bl
  | bl b =>
    cases x <;> first | (simp [oIs] at e; done) | skip
    cases e
    exact .inr ⟨_, b, h1, h2, q.bl⟩
  | _ => cases x <;> simp [oIs] at e
/-! ### index -/
def oIx : D → D → Option D
  | .lst l, .int i => atI l i
  | .tup l, .int i => atI l i
  | .scr l, .int i => (atI l i).map .int
  | .str s, .int i => if s.length ≤ sizeLine then (atI s.cps.toList i).map fun c => .str ⟨#[c]⟩ else none
  | _, _ => none
theorem RL.atI {G : Gb} {A : Addr → Prop} {H : Hp} {l : List D} {xs : List V} {i : Int} {d : D} (h : RL G A H l xs) (e : atI l i = some d) : ∃ v, L2.atI xs i = some v ∧ R G A H d v := by
  unfold L2.atI at e ⊢
  rw [h.len]
  cases q : ixN l.length i with
  | none => rw [q] at e; cases e
  | some j =>
    rw [q] at e
    obtain ⟨v, h1, h2⟩ := h.get (i := j) e
    exact ⟨v, h1, h2⟩
theorem ops_ix {G : Gb} : OpS G (fun p _ => .sh p) (rIx G.K) oIx := by
  intro c O H x y z v1 v2 p1 p2 Q h1 h2 e q
  cases y <;> first | (cases x <;> simp [oIx] at e; done) | skip
  rename_i i
  cases x <;> first | (simp [oIx] at e; done) | skip
  · rename_i s
    simp only [oIx] at e
    split at e
    · rename_i hl
      obtain ⟨c', e1, e2⟩ := Option.map_eq_some_iff.mp e
      subst e2
      exact .inr (.inr ⟨s, i, c', h1, h2, hl, e1, q.str⟩)
    · cases e
  · rename_i l
    obtain ⟨a, xs, rfl, e1, r1⟩ := h1
    obtain ⟨v, e2, r2⟩ := r1.atI e
    exact .inr (.inl ⟨a, xs, i, v, rfl, h2, e1, e2, q.old v r2⟩)
  · rename_i l
    obtain ⟨a, xs, rfl, e1, r1⟩ := h1
    obtain ⟨v, e2, r2⟩ := r1.atI e
    exact .inl ⟨a, xs, i, v, rfl, h2, SqL.of e1, e2, q.old v r2⟩
  · rename_i l
    obtain ⟨a, rfl, e1⟩ := h1
    obtain ⟨n, e2, e3⟩ := Option.map_eq_some_iff.mp e
    subst e3
    refine .inl ⟨a, _, i, .int n, rfl, h2, e1.sq, ?_, q.int⟩
    unfold L2.atI at e2 ⊢
    rw [List.length_map]
    cases q : ixN l.length i with
    | none => rw [q] at e2; cases e2
    | some j =>
      rw [q] at e2
      have e2' : l[j]? = some n := e2
      show (l.map V.int)[j]? = some (V.int n)
      rw [List.getElem?_map, e2']
      rfl
section
variable {G : Gb} {W : WX} {N : List Str} {sc : Scope} {k : Nat} {X : Cx} {F F1 F2 F3 : List SF} {f f1 f2 : VF}
theorem de_ix (g : Gv G N sc X) {a b : Expr} {pos : Pos} {ea eb : EvE} (ha : PE X a (TEv G W F F1 f1 ea)) (hb : PE X b (TEv G W F1 F2 f2 eb)) (hs : PlainIx b := by exact fun _ _ => rfl) :
    PE X (.Subscript a b pos) (TEv G W F F2 (.sh f1.dp) (eB2 oIx ea eb)) := by
  refine pe_imp (pe_ix ix_seq ha hb hs) ?_
  rw [g.K]
  exact OpS.core ops_ix (fun _ _ _ z => z) fun _ _ _ z => z
/-! ### displays -/
def nbL : List VF → Bool
  | [] => true
  | f :: fs => f.nb && nbL fs
def dpL : List VF → Bool
  | [] => true
  | f :: fs => f.dp && dpL fs
theorem RA.r {c : Fr} {O : Addr → Prop} {H : Hp} {d : D} {v : V} (h : RA G c O H f d v) (n : f.nb = true) : R G (Av c O f.dp) H d v := by
  cases f with
  | sh dp => exact h
  | uq dp => exact h
  | bo dp => cases n
theorem RVL.rl {c : Fr} {O : Addr → Prop} {H : Hp} : ∀ {fs : List VF} {ds : List D} {vs : List V}, RVL G c O H fs ds vs → nbL fs = true → RL G (Av c O (dpL fs)) H ds vs
  | [], _, _, ⟨h1, h2⟩, _ => by rw [h1, h2]; rfl
  | f :: fs, _, _, ⟨d, r, v, t, e1, e2, h1, h2⟩, n => by
    simp only [nbL, Bool.and_eq_true] at n
    rw [e1, e2]
    exact RL.cons ((h1.r n.1).an fun a z => z.dpand _) ((RVL.rl h2 n.2).an fun a z => z.dpand' _)
theorem RVL.len {c : Fr} {O : Addr → Prop} {H : Hp} : ∀ {fs : List VF} {ds : List D} {vs : List V}, RVL G c O H fs ds vs → ds.length = fs.length ∧ vs.length = fs.length
  | [], _, _, ⟨h1, h2⟩ => by rw [h1, h2]; exact ⟨rfl, rfl⟩
  | f :: fs, _, _, ⟨d, r, v, t, e1, e2, h1, h2⟩ => by
    have := RVL.len h2
    rw [e1, e2]
    simp [this.1, this.2]
def eTup (a : En → Rs (List D)) : EvE := fun en => bnd (a en) fun ds => .ok (.tup ds)
def eLst (a : En → Rs (List D)) : EvE := fun en => bnd (a en) fun ds => .ok (.lst ds)
theorem de_tup {es : List Expr} {n : Nat} {pos : Pos} {fs : List VF} {ea : En → Rs (List D)} (ha : PA X es (TAv G W F F1 fs ea)) (hn : nbL fs = true := by rfl) (hl : fs.length ≤ sizeLine := by decide) : PE X (.Tuple es n pos) (TEv G W F F1 (.uq (dpL fs)) (eTup ea)) := by
  refine pe_imp (pe_tup ha) ?_
  rintro σ H Q ⟨c, en, own, ok, m⟩
  refine ⟨c, en, own, ok, m.bnd.imp fun ds _ mx vs H1 own1 ok1 s1 b1 r1 => ?_⟩
  refine ⟨by rw [r1.len.2]; exact hl, fun p hp => (ok1.kp (f := .uq (dpL fs)) (z := .tup ds) fun v H2 own2 ok2 s2 b2 r2 => mx v H2 own2 ok2 (s1.trans s2) (sub_trans b1 s1 b2) r2).new p _ hp ⟨vs, rfl, r1.rl hn⟩⟩
theorem de_lst {es : List Expr} {pos : Pos} {fs : List VF} {ea : En → Rs (List D)} (ha : PA X es (TAv G W F F1 fs ea)) (hn : nbL fs = true := by rfl) (hl : fs.length ≤ sizeLine := by decide) : PE X (.List es pos) (TEv G W F F1 (.uq (dpL fs)) (eLst ea)) := by
  refine pe_imp (pe_lst ha) ?_
  rintro σ H Q ⟨c, en, own, ok, m⟩
  refine ⟨c, en, own, ok, m.bnd.imp fun ds _ mx vs H1 own1 ok1 s1 b1 r1 => ?_⟩
  refine ⟨by rw [r1.len.2]; exact hl, fun p hp => (ok1.kp (f := .uq (dpL fs)) (z := .lst ds) fun v H2 own2 ok2 s2 b2 r2 => mx v H2 own2 ok2 (s1.trans s2) (sub_trans b1 s1 b2) r2).new p _ hp ⟨vs, rfl, r1.rl hn⟩⟩
theorem de_dnew {pos : Pos} : PE X (.Dict [] [] pos) (TEv G W F F (.uq true) (eC (.dct [] []))) := by
  refine pe_imp pe_dnewK ?_
  rintro σ H Q ⟨c, en, own, ok, m⟩
  exact fun p hp => (ok.kp (f := .uq true) (z := .dct [] []) fun v H2 own2 ok2 s2 b2 r2 => m v H2 own2 ok2 s2 b2 r2).new p _ hp ⟨[], rfl, rfl, rfl⟩
/-- what is flat is new -/
def eFl (ev : EvE) : EvE := fun en => bnd (ev en) fun d => if flat d = true then .ok d else .error .stuck
theorem de_fl {e : Expr} {ev : EvE} (h : PE X e (TEv G W F F1 f ev)) : PE X e (TEv G W F F1 (.uq true) (eFl ev)) := by
  refine pe_imp h ?_
  rintro σ H Q ⟨c, en, own, ok, m⟩
  refine ⟨c, en, own, ok, m.bnd.imp fun d _ md v H1 own1 ok1 s1 b1 r1 => ?_⟩
  split at md
  · rename_i hf
    exact md v H1 own1 ok1 s1 b1 ⟨[], flat_uq hf r1.b.r, fun a h => by cases h⟩
  · exact md.elim
/-- a list, a tuple or a dict of flat things: its parts are new -/
def flatIn : D → Bool
  | .lst l => flat.flatL l
  | .dct _ l => flat.flatL l
  | d => flat d
def eFi (ev : EvE) : EvE := fun en => bnd (ev en) fun d => if flatIn d = true then .ok d else .error .stuck
theorem RO.fi {A A' : Addr → Prop} {H : Hp} {d : D} {v : V} {os : List Addr} (h : RO G A H d v os) (hf : flatIn d = true) : RO G A' H d v os := by
  cases d with
  | lst l => obtain ⟨a, xs, e, eo, h1, h2⟩ := h; exact ⟨a, xs, e, eo, h1, RL.flat l hf h2⟩
  | dct ks l => obtain ⟨a, kvs, e, eo, h1, h2, h3⟩ := h; exact ⟨a, kvs, e, eo, h1, h2, RL.flat l hf h3⟩
  | tup l => exact ⟨h.1, R.flat (.tup l) hf h.2⟩
  | non => exact h
  | bl _ => exact h
  | int _ => exact h
  | str _ => exact h
  | obj _ _ => cases hf
  | exc _ => cases hf
  | scr _ => cases hf
theorem de_fi {e : Expr} {ev : EvE} {dp : Bool} (h : PE X e (TEv G W F F1 (.uq dp) ev)) : PE X e (TEv G W F F1 (.uq true) (eFi ev)) := by
  refine pe_imp h ?_
  rintro σ H Q ⟨c, en, own, ok, m⟩
  refine ⟨c, en, own, ok, m.bnd.imp fun d _ md v H1 own1 ok1 s1 b1 r1 => ?_⟩
  split at md
  · rename_i hf
    obtain ⟨os, h1, h2⟩ := r1
    exact md v H1 own1 ok1 s1 b1 ⟨os, h1.fi hf, h2⟩
  · exact md.elim
/-! ### calls of built-ins -/
def CallS (G : Gb) (fo : List VF → VF) (r : List V → Hp → VK → Prop) (op : List D → Option D) : Prop := ∀ (c : Fr) (O : Addr → Prop) (H : Hp) (fs : List VF) (ds : List D) (vs : List V) (z : D) (Q : VK),
  RVL G c O H fs ds vs → op ds = some z → Kp G c O H (fo fs) z Q → r vs H Q
def eBi (op : List D → Option D) (a : En → Rs (List D)) : EvE := fun en => bnd (a en) fun ds => ofO (op ds)
theorem CallS.core {fo : List VF → VF} {r : List V → Hp → VK → Prop} {op : List D → Option D} {fs : List VF} {ta : TA} {ea : En → Rs (List D)} (h : CallS G fo r op) (ha : ∀ σ H Q, TAv G W F F1 fs ea σ H Q → ta σ H Q) :
    ∀ σ H Q, TEv G W F F1 (fo fs) (eBi op ea) σ H Q → tCB r ta σ H Q := by
  rintro σ H Q ⟨c, en, own, ok, m⟩
  refine ha _ _ _ ⟨c, en, own, ok, m.bnd.imp fun ds _ mx vs H1 own1 ok1 s1 b1 r1 => ?_⟩
  obtain ⟨z, ez, q⟩ := mx.ofO
  exact h c _ H1 fs ds vs z Q r1 ez (ok1.kp fun v H2 own2 ok2 s2 b2 r2 => q v H2 own2 ok2 (s1.trans s2) (sub_trans b1 s1 b2) r2)
theorem de_callB (g : Gv G N sc X) {x : Str} {id : String} {p pos : Pos} {e : Expr} {es : List Expr} {fs : List VF} {fo : List VF → VF} {r : List V → Hp → VK → Prop} {op : List D → Option D} {ea : En → Rs (List D)} (hc : CallR X (.builtin id) r) (h : CallS G fo r op) (hm : G.mg x = none)
    (hv : bootBuiltins x = some (.builtin id)) (ha : PA X (e :: es) (TAv G W F F1 fs ea)) (hx : glbB sc x = true := by rfl) (hn : nameB x = true := by rfl)
    (he : starEach (e :: es) X.env = (false, eval e X.env) :: starEach es X.env := by rfl) (hpl : (backTo pos (starEach es X.env)).any (·.1) = false := by rfl) : PE X (.Call (.Name x p) (e :: es) [] pos) (TEv G W F F1 (fo fs) (eBi op ea)) :=
  pe_imp (pe_callB hc (glbB_gl hx g.sc) (by rw [g.mg]; exact hm) hv ha (nameB_d hn).2.2 (nameB_d hn).1 he hpl) (h.core fun _ _ _ z => z)
theorem de_callT (g : Gv G N sc X) {x : Str} {T : String} {p pos : Pos} {e : Expr} {es : List Expr} {fs : List VF} {fo : List VF → VF} {r : List V → Hp → VK → Prop} {op : List D → Option D} {ea : En → Rs (List D)} (hc : CallR X (.type T) r) (h : CallS G fo r op) (hm : G.mg x = none)
    (hv : bootBuiltins x = some (.type T)) (ha : PA X (e :: es) (TAv G W F F1 fs ea)) (hx : glbB sc x = true := by rfl) (hn : nameB x = true := by rfl)
    (he : starEach (e :: es) X.env = (false, eval e X.env) :: starEach es X.env := by rfl) (hpl : (backTo pos (starEach es X.env)).any (·.1) = false := by rfl) : PE X (.Call (.Name x p) (e :: es) [] pos) (TEv G W F F1 (fo fs) (eBi op ea)) :=
  pe_imp (pe_callTy hc (glbB_gl hx g.sc) (by rw [g.mg]; exact hm) hv ha (nameB_d hn).2.2 (nameB_d hn).1 he hpl) (h.core fun _ _ _ z => z)
abbrev foL : List VF → VF := fun _ => .uq true
theorem RVL.one {c : Fr} {O : Addr → Prop} {H : Hp} {fs : List VF} {d : D} {vs : List V} (h : RVL G c O H fs [d] vs) : ∃ f v, fs = [f] ∧ vs = [v] ∧ RB G (Av c O f.dp) H d v := by
  cases fs with
  | nil => cases h.1
  | cons f fs =>
    obtain ⟨d', r, v, t, e1, e2, h1, h2⟩ := h
    cases e1
    cases fs with
    | nil => rw [h2.2] at e2; exact ⟨f, v, rfl, e2, h1.b⟩
    | cons _ _ => obtain ⟨_, _, _, _, e, _⟩ := h2; cases e
theorem RVL.two {c : Fr} {O : Addr → Prop} {H : Hp} {fs : List VF} {d d' : D} {vs : List V} (h : RVL G c O H fs [d, d'] vs) : ∃ f f' v v', fs = [f, f'] ∧ vs = [v, v'] ∧ RB G (Av c O f.dp) H d v ∧ RB G (Av c O f'.dp) H d' v' := by
  cases fs with
  | nil => cases h.1
  | cons f fs =>
    obtain ⟨d', r, v, t, e1, e2, h1, h2⟩ := h
    cases e1
    obtain ⟨f', v', rfl, rfl, h3⟩ := h2.one
    exact ⟨f, f', v, v', rfl, e2, h1.b, h3⟩
/-- len -/
def oLen : List D → Option D
  | [.lst l] => some (.int l.length)
  | [.tup l] => some (.int l.length)
  | [.scr l] => some (.int l.length)
  | [.dct ks _] => some (.int ks.length)
  | [.str s] => if s.length ≤ sizeLine then some (.int s.length) else none
  | _ => none
def rLen (K : PySem.W.Frag) : List V → Hp → VK → Prop := fun xs H Q => (∃ p ys, xs = [.ref p] ∧ (SqL K H p ys ∨ SqT K H p ys) ∧ Q (.int ys.length) H) ∨ (∃ z, xs = [.str z] ∧ z.length ≤ sizeLine ∧ Q (.int z.length) H) ∨
  ∃ a kvs, xs = [V.ref a] ∧ Rd H a (.dK kvs) ∧ Q (.int kvs.length) H
theorem call_or {X : Cx} {v : Value} {r1 r2 : List V → Hp → VK → Prop} (h1 : CallR X v r1) (h2 : CallR X v r2) : CallR X v (fun xs H Q => r1 xs H Q ∨ r2 xs H Q) := by
  intro pins s σ H xs us Q I r h
  rcases h with h | h
  · exact h1 pins s σ H xs us Q I r h
  · exact h2 pins s σ H xs us Q I r h
theorem callr_lenD {X : Cx} : CallR X (.builtin "len") (fun xs H Q => ∃ a kvs, xs = [V.ref a] ∧ Rd H a (.dK kvs) ∧ Q (.int kvs.length) H) := by
  intro pins s σ H xs us Q I r h
  obtain ⟨a, kvs, rfl, ha, q⟩ := h
  obtain ⟨u, rfl, ru⟩ := vals1 r
  cases ru
  exact d_len I ha fun t s' I' => ⟨.int kvs.length, H, I', ⟨t, rfl⟩, q⟩
theorem callr_len {X : Cx} : CallR X (.builtin "len") (rLen X.K) := call_or call_len_seq (call_or call_len_str callr_lenD)
theorem calls_len : CallS G foL (rLen G.K) oLen := by
  intro c O H fs ds vs z Q h e q
  match ds, e with
  | [.lst l], e =>
    cases e
    obtain ⟨f, v, rfl, rfl, a, xs, rfl, e1, r1⟩ := h.one
    exact .inl ⟨a, xs, rfl, .inl (SqL.of e1), by rw [r1.len]; exact q.int⟩
  | [.tup l], e =>
    cases e
    obtain ⟨f, v, rfl, rfl, a, xs, rfl, e1, r1⟩ := h.one
    exact .inl ⟨a, xs, rfl, .inr e1, by rw [r1.len]; exact q.int⟩
  | [.scr l], e =>
    cases e
    obtain ⟨f, v, rfl, rfl, a, rfl, e1⟩ := h.one
    exact .inl ⟨a, _, rfl, .inl e1.sq, by rw [List.length_map]; exact q.int⟩
  | [.dct ks l], e =>
    cases e
    obtain ⟨f, v, rfl, rfl, a, kvs, rfl, e1, rfl, r1⟩ := h.one
    exact .inr (.inr ⟨a, kvs, rfl, e1, by rw [List.length_map] at q; exact q.int⟩)
  | [.str s], e =>
    simp only [oLen] at e
    split at e
    · rename_i hl
      cases e
      obtain ⟨f, v, rfl, rfl, r1⟩ := h.one
      exact .inr (.inl ⟨s, congrArg (fun x => [x]) r1, hl, q.int⟩)
    · cases e
theorem de_len (g : Gv G N sc X) {p pos : Pos} {e : Expr} {fs : List VF} {ea : En → Rs (List D)} (hm : G.mg "len" = none) (ha : PA X [e] (TAv G W F F1 fs ea)) (hx : glbB sc "len" = true := by rfl)
    (he : starEach [e] X.env = [(false, eval e X.env)] := by rfl) : PE X (.Call (.Name "len" p) [e] [] pos) (TEv G W F F1 (.uq true) (eBi oLen ea)) :=
  de_callB g (fo := foL) (r := rLen G.K) (by rw [← g.K]; exact callr_len) calls_len hm PySem.boot_len ha hx (by decide) he rfl
/-- abs -/
def oAbs : List D → Option D
  | [.int i] => some (.int (if i < 0 then -i else i))
  | _ => none
theorem calls_abs : CallS G foL (fun xs H Q => ∃ i, xs = [.int i] ∧ Q (.int (if i < 0 then -i else i)) H) oAbs := by
  intro c O H fs ds vs z Q h e q
  match ds, e with
  | [.int i], e =>
    cases e
    obtain ⟨f, v, rfl, rfl, r1⟩ := h.one
    exact ⟨i, congrArg (fun x => [x]) r1, q.int⟩
theorem de_abs (g : Gv G N sc X) {p pos : Pos} {e : Expr} {fs : List VF} {ea : En → Rs (List D)} (hm : G.mg "abs" = none) (ha : PA X [e] (TAv G W F F1 fs ea)) (hx : glbB sc "abs" = true := by rfl)
    (he : starEach [e] X.env = [(false, eval e X.env)] := by rfl) : PE X (.Call (.Name "abs" p) [e] [] pos) (TEv G W F F1 (.uq true) (eBi oAbs ea)) :=
  de_callB g (fo := foL) call_abs calls_abs hm (by decide +kernel) ha hx (by decide) he rfl
/-- min, max of two whole numbers -/
def oMin : List D → Option D
  | [.int i, .int j] => some (.int (if j < i then j else i))
  | _ => none
def oMax : List D → Option D
  | [.int i, .int j] => some (.int (if j > i then j else i))
  | _ => none
theorem calls_min : CallS G foL (fun xs H Q => ∃ i j, xs = [.int i, .int j] ∧ Q (.int (if j < i then j else i)) H) oMin := by
  intro c O H fs ds vs z Q h e q
  match ds, e with
  | [.int i, .int j], e =>
    cases e
    obtain ⟨f, f', v, v', rfl, rfl, r1, r2⟩ := h.two
    exact ⟨i, j, by rw [show v = .int i from r1, show v' = .int j from r2], q.int⟩
theorem calls_max : CallS G foL (fun xs H Q => ∃ i j, xs = [.int i, .int j] ∧ Q (.int (if j > i then j else i)) H) oMax := by
  intro c O H fs ds vs z Q h e q
  match ds, e with
  | [.int i, .int j], e =>
    cases e
    obtain ⟨f, f', v, v', rfl, rfl, r1, r2⟩ := h.two
    exact ⟨i, j, by rw [show v = .int i from r1, show v' = .int j from r2], q.int⟩
theorem de_min (g : Gd G N sc k W X) {p pos : Pos} {e e' : Expr} {fs : List VF} {ea : En → Rs (List D)} (hm : G.mg "min" = none) (ha : PA X [e, e'] (TAv G W F F1 fs ea)) (hx : glbB sc "min" = true := by rfl)
    (he : starEach [e, e'] X.env = [(false, eval e X.env), (false, eval e' X.env)] := by rfl) (he2 : starEach [e'] X.env = [(false, eval e' X.env)] := by rfl) : PE X (.Call (.Name "min" p) [e, e'] [] pos) (TEv G W F F1 (.uq true) (eBi oMin ea)) :=
  de_callB g.toGv (fo := foL) (call_min2 g.calm) calls_min hm (by decide +kernel) ha hx (by decide) (by rw [he, he2]) (by rw [he2]; rfl)
theorem de_max (g : Gd G N sc k W X) {p pos : Pos} {e e' : Expr} {fs : List VF} {ea : En → Rs (List D)} (hm : G.mg "max" = none) (ha : PA X [e, e'] (TAv G W F F1 fs ea)) (hx : glbB sc "max" = true := by rfl)
    (he : starEach [e, e'] X.env = [(false, eval e X.env), (false, eval e' X.env)] := by rfl) (he2 : starEach [e'] X.env = [(false, eval e' X.env)] := by rfl) : PE X (.Call (.Name "max" p) [e, e'] [] pos) (TEv G W F F1 (.uq true) (eBi oMax ea)) :=
  de_callB g.toGv (fo := foL) (call_max2 g.calm) calls_max hm (by decide +kernel) ha hx (by decide) (by rw [he, he2]) (by rw [he2]; rfl)
/-- int of a whole number or a truth -/
def oInt : List D → Option D
  | [.int i] => some (.int i)
  | [.bl b] => some (.int (if b then 1 else 0))
  | _ => none
theorem calls_int : CallS G foL (fun xs H Q => (∃ i, xs = [.int i] ∧ Q (.int i) H) ∨ ∃ k, xs = [.bl k] ∧ Q (.int (if k then 1 else 0)) H) oInt := by
  intro c O H fs ds vs z Q h e q
  match ds, e with
  | [.int i], e =>
    cases e
    obtain ⟨f, v, rfl, rfl, r1⟩ := h.one
    exact .inl ⟨i, congrArg (fun x => [x]) r1, q.int⟩
  | [.bl i], e =>
    cases e
    obtain ⟨f, v, rfl, rfl, r1⟩ := h.one
    exact .inr ⟨i, congrArg (fun x => [x]) r1, q.int⟩
theorem de_int1 (g : Gv G N sc X) {p pos : Pos} {e : Expr} {fs : List VF} {ea : En → Rs (List D)} (hm : G.mg "int" = none) (ha : PA X [e] (TAv G W F F1 fs ea)) (hx : glbB sc "int" = true := by rfl)
    (he : starEach [e] X.env = [(false, eval e X.env)] := by rfl) : PE X (.Call (.Name "int" p) [e] [] pos) (TEv G W F F1 (.uq true) (eBi oInt ea)) :=
  de_callT g (fo := foL) call_int1 calls_int hm (by decide +kernel) ha hx (by decide) he rfl
/-! ### -x -/
def oNeg : D → Option D
  | .int i => some (.int (-i))
  | _ => none
theorem de_neg {a : Expr} {pos : Pos} {ea : EvE} (ha : PE X a (TEv G W F F1 f1 ea)) : PE X (.UnaryOp .USub a pos) (TEv G W F F1 (.uq true) (eU1 oNeg ea)) := by
  refine pe_imp (pe_un un_neg ha) ?_
  rintro σ H Q ⟨c, en, own, ok, m⟩
  refine ⟨c, en, own, ok, m.bnd.imp fun x _ mx v1 H1 own1 ok1 s1 b1 r1 => ?_⟩
  obtain ⟨z, ez, q⟩ := mx.ofO
  cases x <;> first | cases ez | skip
  exact ⟨_, r1.int, q _ H1 own1 ok1 s1 b1 (RV.mkI _)⟩
/-- a if t else b: both sides end with the same flags -/
def eIf (t : En → Rs Bool) (a b : EvE) : EvE := fun en => bnd (t en) fun c => if c = true then a en else b en
theorem de_if {c a b : Expr} {pos : Pos} {t : En → Rs Bool} {ea eb : EvE} (hc : PT X c (TTv G W F F t)) (ha : PE X a (TEv G W F F f ea)) (hb : PE X b (TEv G W F F f eb)) : PE X (.IfExp c a b pos) (TEv G W F F f (eIf t ea eb)) := by
  refine pe_imp (pe_ifExp hc ha hb) ?_
  rintro σ H Q ⟨c, en, own, ok, m⟩
  refine ⟨c, en, own, ok, m.bnd.imp fun x _ mx H1 own1 ok1 s1 b1 => ?_⟩
  cases x with
  | true =>
    rw [if_pos rfl] at mx
    exact iteT ⟨c, en, own1, ok1, mx.imp fun d _ q v H2 own2 ok2 s2 b2 r2 => q v H2 own2 ok2 (s1.trans s2) (sub_trans b1 s1 b2) r2⟩
  | false =>
    rw [if_neg (by decide)] at mx
    exact iteF ⟨c, en, own1, ok1, mx.imp fun d _ q v H2 own2 ok2 s2 b2 r2 => q v H2 own2 ok2 (s1.trans s2) (sub_trans b1 s1 b2) r2⟩
/-! ### isinstance, a built-in class -/
inductive Ty where
  | non | bool | int | str | tuple | list | dict
  deriving DecidableEq
def Ty.nm : Ty → String
  | .non => "NoneType" | .bool => "bool" | .int => "int" | .str => "str" | .tuple => "tuple" | .list => "list" | .dict => "dict"
def isiB (t u : Ty) : Bool := decide (t = u) || (decide (t = .bool) && decide (u = .int))
theorem kit_all : ∀ t u : Ty, kitB t.nm u.nm = some (isiB t u) := by
  intro t u
  cases t <;> cases u <;> decide +kernel
def tyD : D → Option Ty
  | .non => some .non | .bl _ => some .bool | .int _ => some .int | .str _ => some .str | .tup _ => some .tuple | .lst _ => some .list | .dct _ _ => some .dict | .scr _ => some .list
  | _ => none
theorem RB.ty {A : Addr → Prop} {H : Hp} {d : D} {v : V} {t : Ty} (h : RB G A H d v) (e : tyD d = some t) : TyX G.K H v (.type t.nm) := by
  cases d <;> cases e
  · rw [show v = .non from h]; exact .base .non
  · rw [show v = .bl _ from h]; exact .base (.bl _)
  · rw [show v = .int _ from h]; exact .base (.int _)
  · rw [show v = .str _ from h]; exact .base (.str _)
  · obtain ⟨a, xs, rfl, h1, _⟩ := h
    rcases h1 with (h1 | ⟨o, h1⟩) | ⟨o, its, n, h1, h2, _⟩
    · exact .base (.tup h1)
    · exact .fTuple h1
    · exact .kTuple h1 h2
  · obtain ⟨a, xs, rfl, h1, _⟩ := h
    exact .base (.lst h1)
  · obtain ⟨a, xs, rfl, h1, _⟩ := h
    rcases h1 with h1 | ⟨o, h1⟩
    · exact .base (.dK h1)
    · exact .fDict h1
  · obtain ⟨a, rfl, h1⟩ := h
    rcases h1 with ⟨o, h1⟩ | ⟨o, its, n, h1, h2, _⟩
    · exact .base (.frz h1)
    · exact .kList h1 h2
def eIsi (u : Ty) (a : EvE) : EvE := fun en => bnd (a en) fun d => bnd (ofO (tyD d)) fun t => .ok (.bl (isiB t u))
theorem de_isi (g : Gv G N sc X) (u : Ty) {p pos tp : Pos} {a : Expr} {ea : EvE} {T : Str} (hm : G.mg "isinstance" = none) (hm2 : G.mg T = none) (ha : PE X a (TEv G W F F1 f1 ea)) (hv : bootBuiltins T = some (.type u.nm)) (hx : glbB sc "isinstance" = true := by rfl) (hx2 : glbB sc T = true := by rfl) (hn : nameB T = true := by rfl)
    (he : starEach [a, .Name T tp] X.env = [(false, eval a X.env), (false, eval (.Name T tp) X.env)] := by rfl) : PE X (.Call (.Name "isinstance" p) [a, .Name T tp] [] pos) (TEv G W F F1 (.uq true) (eIsi u ea)) := by
  have hT : PE X (.Name T tp) (tC (.ty u.nm)) := pe_bltn (glbB_gl hx2 g.sc) (by rw [g.mg]; exact hm2) hv rfl (nameB_d hn).2.2 (nameB_d hn).1
  refine pe_imp (pe_callB call_isi (glbB_gl hx g.sc) (by rw [g.mg]; exact hm) (by decide +kernel) (pa_cons ha (pa_cons hT pa_nil) (by rw [he]; rfl)) (by decide) (by decide) (by rw [he]; rfl) rfl) ?_
  rintro σ H Q ⟨c, en, own, ok, m⟩
  refine ⟨c, en, own, ok, m.bnd.imp fun x _ mx v1 H1 own1 ok1 s1 b1 r1 => ?_⟩
  obtain ⟨t, et, q⟩ := mx.bnd.ofO
  exact ⟨v1, .ty u.nm, .type t.nm, .type u.nm, isiB t u, rfl, .ty _, by rw [g.K]; exact r1.b.ty et, kit_ty (kit_all t u), q _ H1 own1 ok1 s1 b1 (RV.mkB _)⟩
end
end Pi
namespace Pi
open PySem PySem.Spec PyProof.Rows L2
/-! ### what a def promises -/
/-- what is handed back: new (md), or what the arguments reach too -/
def RRet (G : Gb) (md : Bool) (A0 : Addr → Prop) (H H' : Hp) (d : D) (v : V) : Prop :=
  match md with
  | true => ∃ os, RO G (fun a => H a = none ∧ a ∉ os) H' d v os ∧ ∀ a, a ∈ os → H a = none
  | false => R G (fun a => H a = none ∨ A0 a) H' d v
def spF (G : Gb) (md : Bool) (n : Nat) (fn : List D → Rs D) : Sp := fun vs H Q E => vs.length = n ∧ ∃ (ds : List D) (A0 : Addr → Prop), RL G A0 H ds vs ∧
  match fn ds with
  | .ok d => ∀ v H', Same H H' → RRet G md A0 H H' d v → Q v H'
  | .error (.raise e) => ∀ H', Same H H' → E (.ref (G.xa e)) none H'
  | .error .stuck => False
/-- a def of the module that may be called: at most at level j -/
structure Cal (G : Gb) (j : Nat) (x : Str) (md : Bool) (n : Nat) (fn : List D → Rs D) : Prop where
  ex : ∃ (f : Addr) (fd : FuncData) (ps : List Str), FnOk G.P G.w G.K G.mg G.base (L2.CX G.P G.w) j f fd ps (spF G md n fn) ∧ G.mg x = some (.ref f) ∧ PySem.W.keepIn G.K (.ref f) = true ∧ Binds G.K fd ps []
/-- .. with one default that fills up -/
structure CalD (G : Gb) (j : Nat) (x : Str) (md : Bool) (n : Nat) (dd : D) (fn : List D → Rs D) : Prop where
  ex : ∃ (f : Addr) (fd : FuncData) (ps : List Str) (dv : V) (du : Value), FnOk G.P G.w G.K G.mg G.base (L2.CX G.P G.w) j f fd ps (spF G md (n + 1) fn) ∧ G.mg x = some (.ref f) ∧ PySem.W.keepIn G.K (.ref f) = true ∧ Binds G.K fd ps [du] ∧ RelV dv du ∧ flat dd = true ∧ ∀ A H, R G A H dd dv
section
variable {G : Gb} {W : WX} {N : List Str} {sc : Scope} {k : Nat} {X : Cx} {F F1 F2 F3 : List SF} {f f1 f2 : VF} {c : Fr} {en : En} {own : Own} {σ : L2.St} {H H' : Hp}
def Own.resL (w : Own) (os : List Addr) : Own := ⟨w.sl, fun a => w.tm a ∨ a ∈ os⟩
theorem sub_resL {w : Own} {os : List Addr} (h : ∀ a, a ∈ os → H a = none) : Sub (ow w) (ow (w.resL os)) H := fun a z => by
  rcases z with z | z | z
  · exact .inl (.inl z)
  · exact .inl (.inr z)
  · exact .inr (h a z)
theorem Ok.resL (ok : Ok G c F en own σ H) (s : Same H H') {os : List Addr} (h : ∀ a, a ∈ os → H a = none) (h' : ∀ a, a ∈ os → H' a ≠ none) : Ok G c F en (own.resL os) σ H' where
  lF := ok.lF
  lE := ok.lE
  same := fun b o n e => s _ _ (ok.same b o n e)
  tr := fun a h => same_ne s (ok.tr a h)
  dj := ok.dj
  dt := fun i a q z => z.elim (ok.dt i a q) fun e => (ok.nw i _ q).1 (h a e)
  nt := fun a q => q.elim (fun q => ⟨same_ne s (ok.nt a q).1, (ok.nt a q).2⟩) fun e => ⟨h' a e, ok.free (h a e)⟩
  nw := fun i a q => ⟨same_ne s (ok.nw i a q).1, (ok.nw i a q).2⟩
  sl := fun i => (ok.sl i).grow s rfl (sub_resL h)
  lk := fun a o q => ⟨s _ _ (ok.lk a o q).1, (ok.lk a o q).2.imp id fun n z => by
    rcases z with z | z | z
    · exact n (.inl z)
    · exact n (.inr z)
    · have := (ok.lk a o q).1; rw [h a z] at this; cases this⟩
theorem RO.at {A : Addr → Prop} {d : D} {v : V} {os : List Addr} (h : RO G A H d v os) : ∀ a, a ∈ os → H a ≠ none := by
  intro a ha
  cases d with
  | lst l => obtain ⟨b, xs, e, eo, h1, _⟩ := h; rw [eo] at ha; exact (by simpa using ha : a = b) ▸ (by rw [h1]; simp)
  | dct ks l => obtain ⟨b, xs, e, eo, h1, _⟩ := h; rw [eo] at ha; exact (by simpa using ha : a = b) ▸ (by rw [h1]; simp)
  | obj ks l => obtain ⟨b, dx, xs, e, eo, h1, _⟩ := h; rw [eo] at ha; exact (by simpa using ha : a = b) ▸ (by rw [h1]; simp)
  | exc _ => exact h.elim
  | _ => rw [h.1] at ha; cases ha
/-- what a call handed back, at hand -/
def VF.ret : Bool → VF
  | true => .uq true
  | false => .sh false
theorem Ok.back {md : Bool} {d : D} {v : V} (ok : Ok G c F en own σ H) (s : Same H H') (r : RRet G md (Av c (ow own) false) H H' d v) : ∃ own', Ok G c F en own' σ H' ∧ Sub (ow own) (ow own') H ∧ RV G c own' H' (VF.ret md) d v := by
  cases md with
  | true =>
    obtain ⟨os, h1, h2⟩ := r
    refine ⟨own.resL os, ok.resL s h2 h1.at, sub_resL h2, os, RO.up h1 (Up.same (Same.refl H') fun a ⟨z1, z2⟩ => ⟨fun y => ?_, fun _ => ok.free z1, .inl (ok.free z1)⟩) fun _ _ _ z => z, fun a ha => .inr ha⟩
    rcases y with y | y | y
    · exact ok.trk (.inl y) z1
    · exact ok.trk (.inr y) z1
    · exact z2 y
  | false =>
    refine ⟨own, ok.grow s, sub_refl, R.up (Up.same (Same.refl H') fun a z => ?_) _ r⟩
    rcases z with z | z
    · exact ⟨fun y => ok.trk y z, ⟨fun _ => ok.free z, .inl (ok.free z)⟩⟩
    · exact z
theorem Gd.fnOk (g : Gd G N sc k W X) {j : Nat} {f : Addr} {fd : FuncData} {ps : List Str} {sp : Sp} (h : FnOk G.P G.w G.K G.mg G.base (L2.CX G.P G.w) j f fd ps sp) : FnOk X.prog X.w X.K X.mg X.base (L2.CX X.prog X.w) j f fd ps sp := by
  rw [g.prog, g.w, g.K, g.mg, g.base]
  exact h
theorem RVL.any {O : Addr → Prop} : ∀ {fs : List VF} {ds : List D} {vs : List V}, RVL G c O H fs ds vs → RL G (fun _ => True) H ds vs
  | [], _, _, ⟨h1, h2⟩ => by rw [h1, h2]; rfl
  | f :: fs, _, _, ⟨d, r, v, t, e1, e2, h1, h2⟩ => by rw [e1, e2]; exact RL.cons h1.b.r (RVL.any h2)
def eCall (fn : List D → Rs D) (a : En → Rs (List D)) : EvE := fun en => bnd (a en) fn
def eCallD (fn : List D → Rs D) (dd : D) (a : En → Rs (List D)) : EvE := fun en => bnd (a en) fun ds => fn (ds ++ [dd])
/-- borrowed arguments only where what comes back is new -/
def okArgs (md : Bool) (fs : List VF) : Bool := md || nbL fs
theorem call_core {md : Bool} {n : Nat} {fn : List D → Rs D} {fs : List VF} {ea : En → Rs (List D)} (hn : fs.length = n) (ha : okArgs md fs = true) {dvs : List V} {dds : List D} (hd : ∀ A H, RL G A H dds dvs) :
    ∀ σ H Q, TEv G W F F1 (VF.ret md) (fun en => bnd (ea en) fun ds => fn (ds ++ dds)) σ H Q → tCallSD (spF G md (n + dvs.length) fn) dvs (WE W) (TAv G W F F1 fs ea) σ H Q := by
  rintro σ H Q ⟨c, en, own, ok, m⟩
  refine ⟨c, en, own, ok, m.bnd.imp fun ds _ mx vs H1 own1 ok1 s1 b1 r1 => ?_⟩
  refine ⟨by rw [List.length_append, r1.len.2, hn], ds ++ dds, if md = true then fun _ => True else Av c (ow own1) false, RL.app ?_ (hd _ _), ?_⟩
  · cases md with
    | true => exact r1.any
    | false => exact (r1.rl (by simpa [okArgs] using ha)).an fun a z => z.undp
  · cases e : fn (ds ++ dds) with
    | ok d =>
      rw [e] at mx
      intro v H2 s2 r2
      have r2' : RRet G md (Av c (ow own1) false) H1 H2 d v := by cases md <;> exact r2
      obtain ⟨own2, ok2, b2, rv⟩ := ok1.back s2 r2'
      exact mx v H2 own2 ok2 (s1.trans s2) (sub_trans b1 s1 b2) rv
    | error x =>
      rw [e] at mx
      cases x with
      | stuck => exact mx.elim
      | raise x => exact fun H2 s2 => mx H2 fun b o nb e => s2 _ _ (ok1.same b o nb e)
theorem de_call (g : Gd G N sc k W X) {j : Nat} {x : Str} {md : Bool} {n : Nat} {fn : List D → Rs D} (C : Cal G j x md n fn) {p pos : Pos} {e : Expr} {es : List Expr} {fs : List VF} {ea : En → Rs (List D)} (ha : PA X (e :: es) (TAv G W F F1 fs ea))
    (hj : j ≤ k := by decide) (hn : fs.length = n := by rfl) (ho : okArgs md fs = true := by rfl) (hx : glbB sc x = true := by rfl) (hnm : nameB x = true := by rfl)
    (he : starEach (e :: es) X.env = (false, eval e X.env) :: starEach es X.env := by rfl) (hpl : (backTo pos (starEach es X.env)).any (·.1) = false := by rfl) : PE X (.Call (.Name x p) (e :: es) [] pos) (TEv G W F F1 (VF.ret md) (eCall fn ea)) := by
  obtain ⟨f, fd, ps, hF, hm, hk, hb⟩ := C.ex
  refine pe_imp (pe_callSD (dvs := []) (ds := []) (g.fnOk hF) (g.room.mono hj) (glbB_gl hx g.sc) (by rw [g.mg]; exact hm) (by rw [g.K]; exact hk) (by rw [g.K]; exact hb) .nil (fun σ => passAt g.tk σ) ha (nameB_d hnm).1 he hpl) ?_
  have q := call_core (G := G) (W := W) (F := F) (F1 := F1) (md := md) (n := n) (fn := fn) (ea := ea) hn ho (dvs := []) (dds := []) fun _ _ => RL.nil
  simp only [List.append_nil, List.length_nil, Nat.add_zero] at q
  exact q
theorem de_callD (g : Gd G N sc k W X) {j : Nat} {x : Str} {md : Bool} {n : Nat} {dd : D} {fn : List D → Rs D} (C : CalD G j x md n dd fn) {p pos : Pos} {e : Expr} {es : List Expr} {fs : List VF} {ea : En → Rs (List D)} (ha : PA X (e :: es) (TAv G W F F1 fs ea))
    (hj : j ≤ k := by decide) (hn : fs.length = n := by rfl) (ho : okArgs md fs = true := by rfl) (hx : glbB sc x = true := by rfl) (hnm : nameB x = true := by rfl)
    (he : starEach (e :: es) X.env = (false, eval e X.env) :: starEach es X.env := by rfl) (hpl : (backTo pos (starEach es X.env)).any (·.1) = false := by rfl) : PE X (.Call (.Name x p) (e :: es) [] pos) (TEv G W F F1 (VF.ret md) (eCallD fn dd ea)) := by
  obtain ⟨f, fd, ps, dv, du, hF, hm, hk, hb, hr, _, hd⟩ := C.ex
  refine pe_imp (pe_callSD (dvs := [dv]) (ds := [du]) (g.fnOk hF) (g.room.mono hj) (glbB_gl hx g.sc) (by rw [g.mg]; exact hm) (by rw [g.K]; exact hk) (by rw [g.K]; exact hb) (.cons hr .nil) (fun σ => passAt g.tk σ) ha (nameB_d hnm).1 he hpl) ?_
  exact call_core (G := G) (W := W) (F := F) (F1 := F1) (md := md) (n := n) (fn := fn) (ea := ea) hn ho (dvs := [dv]) (dds := [dd]) fun A H => RL.cons (hd A H) RL.nil
/-! ### taking what a slot owns: the slot is not read again -/
def tkL : List SF → Nat → List SF
  | [], _ => []
  | _ :: F, 0 => .n :: F
  | f :: F, i + 1 => f :: tkL F i
theorem tkL_wk : ∀ (F : List SF) (i : Nat), wkL F (tkL F i) = true
  | [], _ => rfl
  | f :: F, 0 => by
    have h : ∀ F : List SF, wkL F F = true := fun F => by
      induction F with
      | nil => rfl
      | cons f F ih => cases f <;> simp [wkL, SF.wk, ih]
    cases f <;> simp [tkL, wkL, SF.wk, h]
  | f :: F, i + 1 => by
    have := tkL_wk F i
    cases f <;> simp [tkL, wkL, SF.wk, this]
theorem tkL_at : ∀ {F : List SF} {i : Nat} {f : SF}, F[i]? = some f → (tkL F i)[i]? = some .n
  | [], _, _, h => by simp at h
  | f :: F, 0, _, h => rfl
  | f :: F, i + 1, _, h => tkL_at (F := F) (i := i) (by simpa using h)
def SF.tkV : SF → VF
  | .o d => .uq d
  | .s d => .sh d
  | _ => .bo false
theorem de_tk (g : Gv G N sc X) (i : Nat) {x : Str} {pos : Pos} {fl : SF} (hN : N[i]? = some x := by rfl) (hv : visB sc x = true := by rfl) (hx : nameB x = true := by rfl) (hf : F[i]? = some fl := by rfl) (hn : fl.mvOk = true := by rfl) :
    PE X (.Name x pos) (TEv G W F (tkL F i) fl.tkV (eVar i)) := by
  obtain ⟨h1, h2, _⟩ := nameB_d hx
  refine pe_imp (pe_var (i := i) (by rw [g.nN]; exact hN) (visB_vis hv g.sc) h1 h2) ?_
  rintro σ H Q ⟨c, en, own, ok, m⟩
  unfold eVar at m
  split at m
  · rename_i d he
    obtain ⟨x', e1, q⟩ := ok.get he hf (by cases fl <;> simp_all [SF.mvOk]) (by cases fl <;> simp_all [SF.mvOk])
    refine ⟨x', e1, ?_⟩
    obtain ⟨own', ok', sb, tmq⟩ := ok.weak (tkL_wk F i)
    cases fl with
    | n => cases hn
    | z => cases hn
    | x _ => cases hn
    | s dp => exact m x' H own' ok' (Same.refl H) (fun a h => .inl (sb a h)) (R.up (Up.sub sb (by cases dp <;> rfl)) _ q)
    | o dp =>
      -- what the slot owned is reserved
      have h0 : ∀ a, a ∈ own.sl i → H a ≠ none ∧ c.H0 a = none := fun a ha => ⟨(ok.nw i a ha).1, (ok.nw i a ha).2.resolve_right fun ⟨z, _⟩ => by rw [hf] at z; cases z⟩
      let own2 : Own := ⟨fun j => if j = i then [] else own.sl j, fun a => own.tm a ∨ a ∈ own.sl i⟩
      have hs2 : ∀ a, ow own2 a → ow own a := fun a z => by
        rcases z with ⟨j, hj⟩ | z | z
        · have hj' : a ∈ (if j = i then [] else own.sl j) := hj
          split at hj'
          · cases hj'
          · exact .inl ⟨j, hj'⟩
        · exact .inr z
        · exact .inl ⟨i, z⟩
      have hsl : ∀ j a, a ∈ own2.sl j → j ≠ i ∧ a ∈ own.sl j := fun j a hj => by
        have hj' : a ∈ (if j = i then [] else own.sl j) := hj
        split at hj'
        · cases hj'
        · exact ⟨by assumption, hj'⟩
      have ok2 : Ok G c (tkL F i) en own2 σ H := by
        refine ⟨ok'.lF, ok.lE, ok.same, ok.tr, fun j1 j2 a q1 q2 => ok.dj j1 j2 a (hsl _ _ q1).2 (hsl _ _ q2).2, fun j a q1 q2 => ?_, fun a q1 => q1.elim (ok.nt a) (h0 a), fun j a q1 => ?_, fun j => ?_, fun a o h => ⟨(ok.lk a o h).1, (ok.lk a o h).2.imp id fun n z => n (hs2 a z)⟩⟩
        · rcases q2 with q2 | q2
          · exact ok.dt j a (hsl _ _ q1).2 q2
          · exact (hsl _ _ q1).1 (ok.dj j i a (hsl _ _ q1).2 q2)
        · obtain ⟨ne, q⟩ := hsl _ _ q1
          obtain ⟨q3, q4⟩ := ok.nw j a q
          refine ⟨q3, q4.imp id fun ⟨z1, z2⟩ => ⟨?_, z2⟩⟩
          have : ∀ (F : List SF) (i j : Nat), j ≠ i → (tkL F i)[j]? = F[j]? := fun F => by
            induction F with
            | nil => intro i j _; rfl
            | cons f F ih =>
              intro i j ne
              cases i with
              | zero => cases j with
                | zero => exact absurd rfl ne
                | succ j => rfl
              | succ i => cases j with
                | zero => rfl
                | succ j => exact ih i j (fun e => ne (congrArg Nat.succ e))
          rw [this F i j ne]
          exact z1
        · by_cases e : j = i
          · subst e
            unfold Slt
            rw [tkL_at hf]
            trivial
          · have es : own2.sl j = own.sl j := if_neg e
            have h2 := (ok.sl j).grow (w' := own2) (Same.refl H) es fun a z => .inl (hs2 a z)
            unfold Slt at h2 ⊢
            have : ∀ (F : List SF) (i j : Nat), j ≠ i → (tkL F i)[j]? = F[j]? := fun F => by
              induction F with
              | nil => intro i j _; rfl
              | cons f F ih =>
                intro i j ne
                cases i with
                | zero => cases j with
                  | zero => exact absurd rfl ne
                  | succ j => rfl
                | succ i => cases j with
                  | zero => rfl
                  | succ j => exact ih i j (fun e => ne (congrArg Nat.succ e))
            rw [this F i j e]
            exact h2
      exact m x' H own2 ok2 (Same.refl H) (fun a z => .inl (hs2 a z)) ⟨own.sl i, RO.up q (Up.sub hs2 (by cases dp <;> rfl)) fun _ _ _ z => z, fun a ha => .inr ha⟩
  · exact m.elim
end
end Pi
namespace Pi
open PySem PySem.Spec PyProof.Rows L2
/-! ### statements -/
/-- what is handed back (new or not), what is wished of exceptions, the flags at the loop's next turn -/
structure Se where
  md : Bool
  W : WX
  Fc : List SF
/-- in a def's own frame -/
structure Gs (G : Gb) (N : List Str) (sc : Scope) (k : Nat) (W : WX) (X : Cx) : Prop where
  g : Gd G N sc k W X
  fn : ∀ x, X.fn x = true
  kd : sc.kind = .function
  stk : X.stack = X.env :: X.outer
  frm : X.env.frame = some X.env.locals
def MtS (G : Gb) (W : WX) (c : Fr) {α : Type} (r : Rs α) (k : α → Prop) : Prop :=
  match r with
  | .ok a => k a
  | .error (.raise e) => ∀ σ' H', c.Sm H' → W (.ref (G.xa e)) none σ' H'
  | .error .stuck => False
/-- what stands as it is, stands -/
def Fr.Lk (c : Fr) (H : Hp) : Prop := ∀ a o, c.L a = some o → H a = some o
def Aft (G : Gb) (S : Se) (c : Fr) (Fo : List SF) (D : Ends) : Fl → Prop
  | .nx en' => ∀ σ' H' own', Ok G c Fo en' own' σ' H' → D.nx σ' H'
  | .rt d => ∀ v H', c.Sm H' → c.Lk H' → RRet G S.md c.A0 c.H0 H' d v → D.rt v H'
  | .ct en' => ∀ σ' H' own', Ok G c S.Fc en' own' σ' H' → D.ct σ' H'
def TSv (G : Gb) (S : Se) (F : List SF) (Fo : List SF) (st : EvS) : TS := fun D σ H => ∃ (c : Fr) (en : En) (own : Own), Ok G c F en own σ H ∧ MtS G S.W c (st en) (Aft G S c Fo D)
section
variable {G : Gb} {S : Se} {W : WX} {N : List Str} {sc : Scope} {k : Nat} {X : Cx} {F F1 F2 F3 : List SF} {Fo : List SF} {f f1 f2 : VF} {c : Fr} {en : En} {own : Own} {σ : L2.St} {H H' : Hp}
theorem MtS.e {α : Type} {r : Rs α} {q : α → Prop} (h : MtS G W c r q) : Mt G W c σ r q := by
  cases r with
  | ok a => exact h
  | error e => cases e with
    | raise e => exact h σ
    | stuck => exact h
theorem MtS.bnd {α β : Type} {r : Rs α} {f : α → Rs β} {q : β → Prop} (h : MtS G W c (bnd r f) q) : MtS G W c r fun a => MtS G W c (f a) q := by
  cases r with
  | ok a => exact h
  | error e => cases e with
    | raise e => exact h
    | stuck => exact h
theorem MtS.imp {α : Type} {r : Rs α} {q q' : α → Prop} (h : MtS G W c r q) (m : ∀ a, r = .ok a → q a → q' a) : MtS G W c r q' := by
  cases r with
  | ok a => exact m a rfl h
  | error e => cases e with
    | raise e => exact h
    | stuck => exact h
theorem MtS.ofO {α : Type} {o : Option α} {q : α → Prop} (h : MtS G W c (ofO o) q) : ∃ a, o = some a ∧ q a := by
  cases o with
  | none => exact h.elim
  | some a => exact ⟨a, rfl, h⟩
def sNil : EvS := fun en => .ok (.nx en)
def sSeq (s t : EvS) : EvS := fun en => bnd (s en) fun fl => match fl with
  | .nx en' => t en'
  | x => .ok x
theorem ds_nil : PSs X [] (TSv G S F F sNil) := by
  refine pss_imp pss_nil ?_
  rintro D σ H ⟨c, en, own, ok, m⟩
  exact m σ H own ok
theorem ds_cons {st : Stmt} {rest : List Stmt} {s t : EvS} (h1 : PS X st (TSv G S F F1 s)) (h2 : PSs X rest (TSv G S F1 Fo t)) : PSs X (st :: rest) (TSv G S F Fo (sSeq s t)) := by
  refine pss_imp (pss_cons h1 h2) ?_
  rintro D σ H ⟨c, en, own, ok, m⟩
  refine ⟨c, en, own, ok, m.bnd.imp fun fl _ mf => ?_⟩
  cases fl with
  | nx en' => exact fun σ' H' own' ok' => ⟨c, en', own', ok', mf⟩
  | rt d => exact mf
  | ct en' => exact mf
theorem ds_one {st : Stmt} {s : EvS} (h1 : PS X st (TSv G S F Fo s)) : PSs X [st] (TSv G S F Fo s) := pss_one h1
/-- flags that say less; a way that never goes on -/
theorem dss_wk {st : List Stmt} {s : EvS} (h : PSs X st (TSv G S F F1 s)) (w : wkL F1 F2 = true := by rfl) : PSs X st (TSv G S F F2 s) := by
  refine pss_imp h ?_
  rintro D σ H ⟨c, en, own, ok, m⟩
  refine ⟨c, en, own, ok, m.imp fun fl _ mf => ?_⟩
  cases fl with
  | nx en' =>
    intro σ' H' own' ok'
    obtain ⟨own2, ok2, _⟩ := ok'.weak w
    exact mf σ' H' own2 ok2
  | rt d => exact mf
  | ct en' => exact mf
/-! ### return, raise, pass, an expression alone -/
def sRet (ev : EvE) : EvS := fun en => bnd (ev en) fun d => .ok (.rt d)
def sRetN : EvS := fun _ => .ok (.rt .non)
def sRai (e : Nat) : EvS := fun _ => .error (.raise e)
def sEx (ev : EvE) : EvS := fun en => bnd (ev en) fun _ => .ok (.nx en)
theorem Ok.ret {md : Bool} {d : D} {v : V} (ok : Ok G c F en own σ H) (r : RV G c own H f d v) (n : f.nb = true) (h : md = true → ∃ b, f = .uq b ∧ b = true) : RRet G md c.A0 c.H0 H d v := by
  cases md with
  | true =>
    obtain ⟨b, rfl, rfl⟩ := h rfl
    obtain ⟨os, h1, h2⟩ := r
    exact ⟨os, RO.up h1 (Up.same (Same.refl H) fun a z => ⟨z.2.1 rfl, fun y => z.1 (.inr (h2 a y))⟩) fun _ _ _ z => z, fun a ha => (ok.nt a (h2 a ha)).2⟩
  | false =>
    obtain ⟨own', ok', _, q⟩ := r.share ok n
    exact R.up (Up.same (Same.refl H) fun a z => z.2.2) _ q
/-- flags with which a value may be handed back -/
def retOk (md : Bool) (f : VF) : Bool := match md, f with
  | true, .uq true => true
  | true, _ => false
  | false, f => f.nb
theorem retOk_of {md : Bool} (h : retOk md f = true) : f.nb = true ∧ (md = true → ∃ b, f = .uq b ∧ b = true) := by
  cases md with
  | true =>
    cases f with
    | uq b => cases b with
      | true => exact ⟨rfl, fun _ => ⟨true, rfl, rfl⟩⟩
      | false => cases h
    | sh _ => cases h
    | bo _ => cases h
  | false => exact ⟨h, fun z => by cases z⟩
theorem ds_ret {e : Expr} {pos : Pos} {ev : EvE} (he : PE X e (TEv G S.W F F1 f ev)) (h : retOk S.md f = true := by rfl) : PS X (.Return (some e) pos) (TSv G S F Fo (sRet ev)) := by
  refine ps_imp (ps_ret he) ?_
  rintro D σ H ⟨c, en, own, ok, m⟩
  obtain ⟨n, h2⟩ := retOk_of h
  exact ⟨c, en, own, ok, m.bnd.e.imp fun d _ q v H1 own1 ok1 s1 b1 r1 => q v H1 ok1.same (fun a o h => (ok1.lk a o h).1) (ok1.ret r1 n h2)⟩
theorem ds_retN {pos : Pos} : PS X (.Return none pos) (TSv G S F Fo sRetN) := by
  refine ps_imp ps_retN ?_
  rintro D σ H ⟨c, en, own, ok, m⟩
  refine m .non H ok.same (fun a o h => (ok.lk a o h).1) ?_
  generalize S.md = md
  cases md with
  | true => exact ⟨[], ⟨rfl, rfl⟩, fun a h => by cases h⟩
  | false => exact rfl
theorem ds_pass {pos : Pos} : PS X (.Pass pos) (TSv G S F F sNil) := by
  refine ps_imp ps_pass ?_
  rintro D σ H ⟨c, en, own, ok, m⟩
  exact m σ H own ok
theorem ds_ex {e : Expr} {pos : Pos} {ev : EvE} (he : PE X e (TEv G S.W F F1 f ev)) (hs : swapsWith e none pos.line X.env = pure false := by rfl) : PS X (.Expr e pos) (TSv G S F F1 (sEx ev)) := by
  refine ps_imp (ps_expr he hs) ?_
  rintro D σ H ⟨c, en, own, ok, m⟩
  exact ⟨c, en, own, ok, m.bnd.e.imp fun d _ q v H1 own1 ok1 s1 b1 r1 => q σ H1 own1 ok1⟩
/-- an own exception class over ValueError (any depth), without __init__ -/
structure Xcl (G : Gb) (x : Str) (e : Nat) : Prop where
  gl : G.mg x = some (.ref (G.xa e))
  ex : PySem.W.excIn G.K (G.xa e) [.type "ValueError", .type "Exception", .type "BaseException", .type "object"] "ValueError.__new__" = true
  kp : PySem.W.keepIn G.K (.ref (G.xa e)) = true
  sb : PySem.W.subIn G.K (.ref (G.xa e)) (.type "BaseException") = some true
  ty : PySem.W.typeIn G.K (.ref (G.xa e)) = some (.type "type")
theorem ds_rai (g : Gd G N sc k S.W X) {x m : Str} {e j : Nat} {p p2 pos cpos : Pos} (C : Xcl G x e) (hx : glbB sc x = true := by rfl) (hn : nameB x = true := by rfl) : PS X (.Raise (some (.Call (.Name x p) [.Constant (.str m) j p2] [] cpos)) none pos) (TSv G S F Fo (sRai e)) := by
  refine ps_imp (ps_raise g.calm g.tk (pmk_own PySem.F.excBase_ValueError (by rw [g.K]; exact C.ex) (by rw [g.mg]; exact C.gl) (by rw [g.K]; exact C.kp) (raises_own (by rw [g.K]; exact C.sb) (by rw [g.K]; exact C.ty)) (glbB_gl hx g.sc) (nameB_d hn).1)) ?_
  rintro D σ H ⟨c, en, own, ok, m⟩
  exact m σ H ok.same
/-! ### if, while -/
def sIf (t : En → Rs Bool) (a b : EvS) : EvS := fun en => bnd (t en) fun c => if c = true then a en else b en
theorem ds_if {c : Expr} {a b : List Stmt} {pos : Pos} {t : En → Rs Bool} {ea eb : EvS} (hc : PT X c (TTv G S.W F F1 t)) (ha : PSs X a (TSv G S F1 Fo ea)) (hb : PSs X b (TSv G S F1 Fo eb)) : PS X (.If c a b pos) (TSv G S F Fo (sIf t ea eb)) := by
  refine ps_imp (ps_if hc ha hb) ?_
  rintro D σ H ⟨c, en, own, ok, m⟩
  refine ⟨c, en, own, ok, m.bnd.e.imp fun x _ mx H1 own1 ok1 s1 b1 => ?_⟩
  cases x with
  | true => rw [if_pos rfl] at mx; exact iteT ⟨c, en, own1, ok1, mx⟩
  | false => rw [if_neg (by decide)] at mx; exact iteF ⟨c, en, own1, ok1, mx⟩
/-- n turns of a while; none: they are not enough -/
def whB (r : Rs Fl) (k : En → Option (Rs Fl)) : Option (Rs Fl) := match r with
  | .error e => some (.error e)
  | .ok (.nx en') => k en'
  | .ok (.ct en') => k en'
  | .ok (.rt d) => some (.ok (.rt d))
def whT (r : Rs Bool) (en : En) (k : Option (Rs Fl)) : Option (Rs Fl) := match r with
  | .error e => some (.error e)
  | .ok false => some (.ok (.nx en))
  | .ok true => k
def whN (t : En → Rs Bool) (b : EvS) : Nat → En → Option (Rs Fl)
  | 0, _ => none
  | n + 1, en => whT (t en) en (whB (b en) (whN t b n))
open Classical in
noncomputable def sWh (t : En → Rs Bool) (b : EvS) : EvS := fun en => if h : ∃ n r, whN t b n en = some r then Classical.choose (Classical.choose_spec h) else .error .stuck
theorem whN_mono {t : En → Rs Bool} {b : EvS} : ∀ {n m : Nat} {en : En} {r : Rs Fl}, n ≤ m → whN t b n en = some r → whN t b m en = some r
  | 0, _, _, _, _, h => by cases h
  | n + 1, 0, _, _, h, _ => by omega
  | n + 1, m + 1, en, r, hm, h => by
    unfold whN at h ⊢
    revert h
    cases t en with
    | error e => exact id
    | ok c =>
      cases c with
      | false => exact id
      | true =>
        show whB (b en) (whN t b n) = some r → whB (b en) (whN t b m) = some r
        cases b en with
        | error e => exact id
        | ok fl =>
          cases fl with
          | nx en' => exact whN_mono (Nat.le_of_succ_le_succ hm)
          | ct en' => exact whN_mono (Nat.le_of_succ_le_succ hm)
          | rt d => exact id
theorem sWh_of {t : En → Rs Bool} {b : EvS} {n : Nat} {en : En} {r : Rs Fl} (h : whN t b n en = some r) : sWh t b en = r := by
  have hx : ∃ n r, whN t b n en = some r := ⟨n, r, h⟩
  unfold sWh
  rw [dif_pos hx]
  have h2 := Classical.choose_spec (Classical.choose_spec hx)
  have h3 := whN_mono (Nat.le_max_left n (Classical.choose hx)) h
  have h4 := whN_mono (Nat.le_max_right n (Classical.choose hx)) h2
  rw [h3] at h4
  exact (Option.some.inj h4).symm
theorem sWh_eq (t : En → Rs Bool) (b : EvS) (en : En) : sWh t b en = bnd (t en) fun c => if c = true then bnd (b en) fun fl => match fl with
    | .nx en' => sWh t b en'
    | .ct en' => sWh t b en'
    | x => .ok x
  else .ok (.nx en) := by
  have one : ∀ r, whN t b 1 en = some r → sWh t b en = r := fun r h => sWh_of h
  have e1 : ∀ n, whN t b (n + 1) en = whT (t en) en (whB (b en) (whN t b n)) := fun n => rfl
  cases ht : t en with
  | error e => exact one _ (by rw [e1, ht]; rfl)
  | ok c =>
    cases c with
    | false => exact one _ (by rw [e1, ht]; rfl)
    | true =>
      cases hb : b en with
      | error e => exact one _ (by rw [e1, ht, hb]; rfl)
      | ok fl =>
        have step : ∀ en', (fl = .nx en' ∨ fl = .ct en') → sWh t b en = sWh t b en' := fun en' hfl => by
          have e2 : ∀ n, whN t b (n + 1) en = whN t b n en' := fun n => by
            rw [e1, ht, hb]
            rcases hfl with rfl | rfl <;> rfl
          by_cases hx : ∃ n r, whN t b n en' = some r
          · obtain ⟨n, r, h⟩ := hx
            rw [sWh_of h]
            exact sWh_of (n := n + 1) ((e2 n).trans h)
          · have hx' : ¬ ∃ n r, whN t b n en = some r := fun ⟨n, r, h⟩ => by
              cases n with
              | zero => cases h
              | succ n => exact hx ⟨n, r, (e2 n).symm.trans h⟩
            unfold sWh
            rw [dif_neg hx, dif_neg hx']
        cases fl with
        | nx en' => exact step en' (.inl rfl)
        | ct en' => exact step en' (.inr rfl)
        | rt d => exact one _ (by rw [e1, ht, hb]; rfl)
theorem sWh_some {t : En → Rs Bool} {b : EvS} {en : En} (h : sWh t b en ≠ .error .stuck) : ∃ n r, whN t b n en = some r := by
  by_cases hx : ∃ n r, whN t b n en = some r
  · exact hx
  · exact absurd (by unfold sWh; rw [dif_neg hx]) h
/-- the loop's flags are those at its head -/
theorem ds_while (g : Gd G N sc k S.W X) {c : Expr} {b : List Stmt} {pos : Pos} {t : En → Rs Bool} {eb : EvS} (hc : PT X c (TTv G S.W F F t)) (hb : PSs X b (TSv G { S with Fc := F } F F eb)) : PS X (.While c b [] pos) (TSv G S F F (sWh t eb)) := by
  refine ps_imp (ps_while g.po hc hb) ?_
  rintro D σ H ⟨c, en, own, ok, m⟩
  have hns : sWh t eb en ≠ .error .stuck := fun z => by rw [z] at m; exact m
  obtain ⟨n0, r0, h0⟩ := sWh_some hns
  refine ⟨fun n σ H => ∃ en own r, Ok G c F en own σ H ∧ whN t eb n en = some r ∧ MtS G S.W c r (Aft G S c F D), ⟨n0, en, own, r0, ok, h0, by rw [← sWh_of h0]; exact m⟩, ?_⟩
  rintro n σ H ⟨en, own, r, ok, h, m⟩
  cases n with
  | zero => cases h
  | succ n =>
    unfold whN at h
    refine ⟨c, en, own, ok, ?_⟩
    cases ht : t en with
    | error e =>
      rw [ht] at h
      cases h
      cases e with
      | raise e => exact m σ
      | stuck => exact m
    | ok cv =>
      rw [ht] at h
      intro H1 own1 ok1 s1 b1
      cases cv with
      | false =>
        cases h
        exact m σ H1 own1 ok1
      | true =>
        refine ⟨fun σ' H' => ∃ en own r, Ok G c F en own σ' H' ∧ whN t eb n en = some r ∧ MtS G S.W c r (Aft G S c F D), fun σ' H' q => ⟨n, Nat.lt_succ_self n, q⟩, c, en, own1, ok1, ?_⟩
        have h' : whB (eb en) (whN t eb n) = some r := h
        cases he : eb en with
        | error e =>
          rw [he] at h'
          cases h'
          cases e with
          | raise e => exact m
          | stuck => exact m
        | ok fl =>
          rw [he] at h'
          cases fl with
          | nx en' => exact fun σ' H' own' ok' => ⟨en', own', r, ok', h', m⟩
          | ct en' => exact fun σ' H' own' ok' => ⟨en', own', r, ok', h', m⟩
          | rt d => cases h'; exact m
end
end Pi
namespace Pi
open PySem PySem.Spec PyProof.Rows L2
def plainLocB (sc : Scope) (x : Str) : Bool := match sc.names.lookup x with
  | some .local => true
  | _ => false
section
variable {G : Gb} {S : Se} {W : WX} {N : List Str} {sc : Scope} {k : Nat} {X : Cx} {F F1 F2 F3 : List SF} {Fo : List SF} {f f1 f2 : VF} {c : Fr} {en : En} {own : Own} {σ : L2.St} {H H' : Hp}
theorem locB_loc {x : Str} (h : locB sc x = true) (e : X.env.scope = sc) : Loc X.env.scope x := by
  rw [e]
  unfold locB at h
  split at h
  · exact .inl (by assumption)
  · exact .inr (by assumption)
  · cases h
theorem plainLocB_loc {x : Str} (h : plainLocB sc x = true) (e : X.env.scope = sc) : X.env.scope.names.lookup x = some .local := by
  rw [e]
  unfold plainLocB at h
  split at h
  · assumption
  · cases h
def zB (F : List SF) (i : Nat) : Bool := decide (i < F.length) && (match F[i]? with
  | some .z => false
  | _ => true)
theorem zB_of {i : Nat} (h : zB F i = true) : i < F.length ∧ F[i]? ≠ some .z := by
  unfold zB at h
  simp only [Bool.and_eq_true, decide_eq_true_eq] at h
  refine ⟨h.1, fun e => ?_⟩
  rw [e] at h
  cases h.2
def sAs (i : Nat) (ev : EvE) : EvS := fun en => bnd (ev en) fun d => .ok (.nx (en.set i (some d)))
theorem as_core {i : Nat} {ev : EvE} {te : TE} (hz : zB F1 i = true) (hn : f.nb = true) (ht : ∀ σ H Q, TEv G S.W F F1 f ev σ H Q → te σ H Q) : ∀ D σ H, TSv G S F (F1.set i f.slot) (sAs i ev) D σ H → tAsg te (gName i) D σ H := by
  rintro D σ H ⟨c, en, own, ok, m⟩
  refine ht _ _ _ ⟨c, en, own, ok, m.bnd.e.imp fun d _ q v H1 own1 ok1 s1 b1 r1 => ?_⟩
  obtain ⟨h1, h2⟩ := zB_of hz
  obtain ⟨own2, ok2, _⟩ := ok1.put h1 h2 r1 hn
  exact q _ H1 own2 ok2
theorem ds_as (g : Gv G N sc X) (hfn : ∀ x, X.fn x = true) (i : Nat) {x : Str} {e : Expr} {pos pos' : Pos} {ev : EvE} (he : PE X e (TEv G S.W F F1 f ev)) (hN : N[i]? = some x := by rfl) (hx : locB sc x = true := by rfl) (hz : zB F1 i = true := by rfl) (hn : f.nb = true := by rfl)
    (hs : swapsWith e (some (.Name x pos')) pos.line X.env = pure false := by rfl) : PS X (.Assign [.Name x pos'] e pos) (TSv G S F (F1.set i f.slot) (sAs i ev)) :=
  ps_imp (ps_set (by rw [g.nN]; exact g.nd) (by rw [g.nN]; exact hN) (locB_loc hx g.sc) he hs (.inl (hfn x))) (as_core hz hn fun _ _ _ z => z)
/-- a, b, .. = e, e a tuple -/
def setAll : En → List Nat → List D → En
  | en, i :: is, d :: ds => setAll (en.set i (some d)) is ds
  | en, _, _ => en
def sTu (is : List Nat) (ev : EvE) : EvS := fun en => bnd (ev en) fun d => match d with
  | .tup ds => if ds.length = is.length then .ok (.nx (setAll en is ds)) else .error .stuck
  | _ => .error .stuck
def setF (F : List SF) (f : SF) : List Nat → List SF
  | [] => F
  | i :: is => setF (F.set i f) f is
/-- names that are targets: their places -/
def tgB (N : List Str) (sc : Scope) (F : List SF) : List Nat → List Expr → Bool
  | [], [] => true
  | i :: is, .Name x _ :: es => decide (N[i]? = some x) && locB sc x && zB F i && tgB N sc F is es
  | _, _ => false
def gNames : List Nat → TGs
  | [] => gNil
  | i :: is => gCons (gName i) (gNames is)
theorem zB_set {i j : Nat} {f : SF} (hf : f ≠ .z) (h : zB F i = true) : zB (F.set j f) i = true := by
  obtain ⟨h1, h2⟩ := zB_of h
  have h3 : i < (F.set j f).length := by simpa using h1
  have h4 : (F.set j f)[i]? ≠ some .z := by
    by_cases e : j = i
    · subst e; rw [List.getElem?_set_self h1]; exact fun z => hf (Option.some.inj z)
    · rw [List.getElem?_set_ne e]; exact h2
  unfold zB
  simp only [Bool.and_eq_true, decide_eq_true_eq]
  refine ⟨h3, ?_⟩
  cases q : (F.set j f)[i]? with
  | none => trivial
  | some x => cases x <;> first | trivial | exact absurd q h4
theorem tgB_set {j : Nat} {f : SF} (hf : f ≠ .z) : ∀ {is : List Nat} {es : List Expr}, tgB N sc F is es = true → tgB N sc (F.set j f) is es = true
  | [], [], _ => rfl
  | i :: is, .Name x _ :: es, h => by
    simp only [tgB, Bool.and_eq_true] at h ⊢
    exact ⟨⟨h.1.1, zB_set hf h.1.2⟩, tgB_set hf h.2⟩
  | [], e :: es, h => by cases e <;> cases h
  | i :: is, [], h => by cases h
theorem dg_names (hnN : X.N = N) (hnd : N.Nodup) (hsc : X.env.scope = sc) (hfn : ∀ x, locB sc x = true → X.fn x = true ∨ X.env.scope.names.lookup x = some .local) : ∀ {is : List Nat} {es : List Expr}, tgB N sc F is es = true →
    PGs X es (gNames is) ∧ (assignEach es X.env).length = is.length ∧ (assignEach es X.env).findIdx? (·.1) = none
  | [], [], _ => ⟨pgs_nil, rfl, rfl⟩
  | i :: is, .Name x p :: es, h => by
    simp only [tgB, Bool.and_eq_true, decide_eq_true_eq] at h
    obtain ⟨ih1, ih2, ih3⟩ := dg_names hnN hnd hsc hfn h.2
    refine ⟨pgs_cons (pg_name (i := i) (by rw [hnN]; exact hnd) (by rw [hnN]; exact h.1.1.1) (locB_loc h.1.1.2 hsc) (hfn x h.1.1.2)) ih1 rfl, ?_, ?_⟩
    · show (assignEach es X.env).length + 1 = is.length + 1
      rw [ih2]
    · show List.findIdx? _ ((false, assign (.Name x p) X.env) :: assignEach es X.env) = none
      rw [List.findIdx?_cons]
      simp [ih3]
  | [], e :: es, h => by cases e <;> cases h
  | i :: is, [], h => by cases h
theorem names_core {dp : Bool} : ∀ {is : List Nat} {es : List Expr} {F : List SF} {en : En} {own : Own} {σ : L2.St} {ds : List D} {vs : List V} {Q : L2.St → Hp → Prop}, tgB N sc F is es = true → Ok G c F en own σ H → RL G (Av c (ow own) dp) H ds vs → ds.length = is.length →
    (∀ σ' own', Ok G c (setF F (.s dp) is) (setAll en is ds) own' σ' H → (∀ a, ow own' a → ow own a) → Q σ' H) → gNames is vs σ H Q
  | [], [], F, en, own, σ, ds, vs, Q, _, ok, r, hl, q => by
    cases ds with
    | nil => exact ⟨r, q σ own ok fun _ h => h⟩
    | cons _ _ => cases hl
  | i :: is, .Name x p :: es, F, en, own, σ, ds, vs, Q, h, ok, r, hl, q => by
    cases ds with
    | nil => cases hl
    | cons d ds =>
      obtain ⟨v, t, e, r1, r2⟩ := r
      simp only [tgB, Bool.and_eq_true] at h
      obtain ⟨h1, h2⟩ := zB_of h.1.2
      obtain ⟨own2, ok2, sb⟩ := ok.put (f := .sh dp) h1 h2 r1 rfl
      exact ⟨v, t, e, names_core (tgB_set (f := .s dp) (by simp) h.2) ok2 (RL.up (Up.sub sb (by cases dp <;> rfl)) _ r2) (Nat.succ.inj hl) fun σ' own' ok' sb' => q σ' own' ok' fun a z => sb a (sb' a z)⟩
  | [], e :: es, _, _, _, _, _, _, _, h, _, _, _, _ => by cases e <;> cases h
  | i :: is, [], _, _, _, _, _, _, _, h, _, _, _, _ => by cases h
theorem ds_tu (g : Gs G N sc k S.W X) (is : List Nat) {es : List Expr} {e : Expr} {n : Nat} {pos tp : Pos} {ev : EvE} (he : PE X e (TEv G S.W F F1 f ev)) (ht : tgB N sc F1 is es = true := by rfl) (hs : swapsWithSole [.Tuple es n tp] e pos.line X.env = pure false := by rfl)
    (hw : swappedStores [.Tuple es n tp] e X.env = pure none := by rfl) : PS X (.Assign [.Tuple es n tp] e pos) (TSv G S F (setF F1 (.s f.dp) is) (sTu is ev)) := by
  obtain ⟨h1, h2, h3⟩ := dg_names g.g.nN g.g.nd g.g.sc (fun x _ => .inl (g.fn x)) ht
  refine ps_imp (ps_asg he (pg_tup (n := is.length) g.g.calm h1 h2 h3) hs hw rfl) ?_
  rintro D σ H ⟨c, en, own, ok, m⟩
  refine ⟨c, en, own, ok, m.bnd.e.imp fun d _ q v H1 own1 ok1 s1 b1 r1 => ?_⟩
  cases d <;> first | exact q.elim | skip
  rename_i ds
  dsimp only at q
  split at q
  · rename_i hl
    obtain ⟨a, xs, rfl, hq, rl⟩ := r1.b
    refine ⟨a, xs, rfl, by rw [g.g.K]; exact hq, by rw [rl.len]; exact hl, names_core ht ok1 rl hl fun σ' own' ok' _ => q σ' H1 own' ok'⟩
  · exact q.elim
/-- i, j = a, b: plain local names -/
def sPar (i j : Nat) (a b : EvE) : EvS := fun en => bnd (a en) fun x => bnd (b en) fun y => .ok (.nx ((en.set i (some x)).set j (some y)))
theorem sw_par {a b : Expr} {x y : Str} {px py pt pt2 : Pos} {kt k2 : Nat} {env : Env} (hk : env.scope.kind = .function) (hx : env.scope.names.lookup x = some .local) (hy : env.scope.names.lookup y = some .local) (hxy : x ≠ y) (hl : py.line = px.line)
    (h1 : ([a, b].any fun | .Starred .. => true | _ => false) = false) (h2 : [a, b].all (foldedForSure 8) = false) (h3 : [a, b].all (constantsAlone 8) = false) :
    swappedStores [.Tuple [.Name x px, .Name y py] kt pt] (.Tuple [a, b] k2 pt2) env = pure (some [x, y]) := by
  have hb : env.blockKind = .function := by unfold Env.blockKind; rw [hk]; rfl
  have kx : env.kindOf x = some .local := hx
  have ky : env.kindOf y = some .local := hy
  have hne : ¬ y = x := fun e => hxy e.symm
  have hst : ∀ e : Expr, e ∈ [a, b] → (match e with | .Starred _ _ => true | _ => false) = false := fun e he => by
    have := List.any_eq_false.mp h1 e he
    revert this
    cases e <;> simp
  have sa := hst a (by simp)
  have sb := hst b (by simp)
  unfold swappedStores
  simp only [hb, h1, h2, h3]
  simp [kx, ky, hl, hne, List.eraseDups_cons, Expr.pos]
  rintro (hh | hh)
  · exfalso
    revert sa
    cases a <;> simp_all
  · exfalso
    revert sb
    cases b <;> simp_all
theorem ds_par (g : Gs G N sc k S.W X) (i j : Nat) {x y : Str} {a b : Expr} {px py pt pt2 pos : Pos} {kt k2 : Nat} {ea eb : EvE} (ha : PE X a (TEv G S.W F F1 f1 ea)) (hb : PE X b (TEv G S.W F1 F2 f2 eb)) (hN : N[i]? = some x := by rfl) (hN2 : N[j]? = some y := by rfl) (hij : i ≠ j := by decide)
    (hx : plainLocB sc x = true := by rfl) (hy : plainLocB sc y = true := by rfl) (hxy : x ≠ y := by decide) (hz : zB F2 i = true := by rfl) (hz2 : zB F2 j = true := by rfl) (hn1 : f1.nb = true := by rfl) (hn2 : f2.nb = true := by rfl) (hl : py.line = px.line := by rfl)
    (h1 : ([a, b].any fun | .Starred .. => true | _ => false) = false := by rfl) (h2 : [a, b].all (foldedForSure 8) = false := by rfl) (h3 : [a, b].all (constantsAlone 8) = false := by rfl) (hsa : starEach [a, b] X.env = [(false, eval a X.env), (false, eval b X.env)] := by rfl) (hsb : starEach [b] X.env = [(false, eval b X.env)] := by rfl)
    (hsw : swapsWithSole [.Tuple [.Name x px, .Name y py] kt pt] (.Tuple [a, b] k2 pt2) pos.line X.env = pure false := by rfl) :
    PS X (.Assign [.Tuple [.Name x px, .Name y py] kt pt] (.Tuple [a, b] k2 pt2) pos) (TSv G S F ((F2.set i (.s f1.dp)).set j (.s f2.dp)) (sPar i j ea eb)) := by
  have lx := plainLocB_loc hx g.g.sc
  have ly := plainLocB_loc hy g.g.sc
  refine ps_imp (ps_par g.g.calm (by rw [g.g.nN]; exact g.g.nd) (by rw [g.g.nN]; exact hN) (by rw [g.g.nN]; exact hN2) hij lx ly (pa_cons ha (pa_cons hb pa_nil hsb) (by rw [hsa, hsb])) (sw_par (by rw [g.g.sc]; exact g.kd) lx ly hxy hl h1 h2 h3) hsw) ?_
  rintro D σ H ⟨c, en, own, ok, m⟩
  refine ⟨c, en, own, ok, m.bnd.e.imp fun d1 _ q1 v1 H1 own1 ok1 s1 b1 r1 => ?_⟩
  obtain ⟨own1', ok1', k1, a1⟩ := r1.share ok1 hn1
  refine ⟨c, en, own1', ok1', q1.bnd.e.imp fun d2 _ q2 v2 H2 own2 ok2 s2 b2 r2 => ?_⟩
  obtain ⟨own2', ok2', k2', a2⟩ := r2.share ok2 hn2
  have a1' : R G (Av c (ow own2') f1.dp) H2 d1 v1 := R.up (Up.grow s2 (fun a z => b2 a (k2' a z)) (by cases f1.dp <;> rfl)) _ a1
  obtain ⟨z1, z2⟩ := zB_of hz
  obtain ⟨own3, ok3, k3⟩ := ok2'.put (f := .sh f1.dp) z1 z2 a1' rfl
  have hz3 : zB (F2.set i (VF.sh f1.dp).slot) j = true := zB_set (by simp [VF.slot]) hz2
  obtain ⟨z3, z4⟩ := zB_of hz3
  obtain ⟨own4, ok4, _⟩ := ok3.put (f := .sh f2.dp) z3 z4 (R.up (Up.sub k3 (by cases f2.dp <;> rfl)) _ a2) rfl
  exact ⟨v1, v2, rfl, q2 _ H2 own4 ok4⟩
/-! ### writing into what a slot owns -/
theorem Ok.ownR (ok : Ok G c F en own σ H) {i : Nat} {dp : Bool} {d : D} (hf : F[i]? = some (.o dp)) (he : en[i]? = some (some d)) : ∃ x, σ[i]? = some (some x) ∧ RO G (Av c (ow own) dp) H d x (own.sl i) := ok.get he hf (by simp)
/-- the object that slot i owns is written -/
theorem Ok.wr (ok : Ok G c F en own σ H) {i : Nat} {dp dp' : Bool} {p : Addr} {o o' : HO} {d' : D} (hf : F[i]? = some (.o dp)) (hp : own.sl i = [p]) (hH : H p = some o) (w : Wr o) (hσ : σ[i]? = some (some (.ref p)))
    (new : RO G (Av c (ow own) dp') (upd H p o') d' (.ref p) [p]) : Ok G c (F.set i (.o dp')) (en.set i (some d')) own σ (upd H p o') := by
  have hi : i < F.length := (List.getElem?_eq_some_iff.mp hf).1
  have hpi : p ∈ own.sl i := by rw [hp]; simp
  have hpo : ow own p := .inl ⟨i, hpi⟩
  have h0 : c.H0 p = none := (ok.nw i p hpi).2.resolve_right fun ⟨z, _⟩ => by rw [hf] at z; cases z
  have nn : ∀ {a}, H a ≠ none → upd H p o' a ≠ none := fun {a} h => by
    by_cases e : a = p
    · rw [e, upd_same]; simp
    · rw [upd_ne e]; exact h
  have nz : ∀ j, F[j]? = some SF.z → (F.set i (SF.o dp'))[j]? = some SF.z := fun j z1 => by
    have ne : i ≠ j := fun e => by rw [← e, hf] at z1; cases z1
    rw [List.getElem?_set_ne ne]
    exact z1
  refine ⟨by simpa using ok.lF, by simpa using ok.lE, fun b x nb e => ?_, fun a h => nn (ok.tr a h), ok.dj, ok.dt, fun a h => ⟨nn (ok.nt a h).1, (ok.nt a h).2⟩, fun j a h => ⟨nn (ok.nw j a h).1, (ok.nw j a h).2.imp id fun ⟨z1, z2⟩ => ⟨nz j z1, z2⟩⟩, fun j => ?_, fun a x h => ?_⟩
  · have ne : b ≠ p := fun e' => by rw [e', h0] at e; cases e
    rw [upd_ne ne]
    exact ok.same b x nb e
  · by_cases e : j = i
    · subst e
      unfold Slt
      rw [List.getElem?_set_self hi, List.getElem?_set_self (by rw [ok.lE, ← ok.lF]; exact hi)]
      refine ⟨.ref p, hσ, ?_⟩
      rw [hp]
      exact new
    · have h := ok.sl j
      unfold Slt at h ⊢
      rw [List.getElem?_set_ne (fun z => e z.symm), List.getElem?_set_ne (fun z => e z.symm)]
      have na : ∀ b, ¬ Av c (ow own) b p := fun b z => z.1 hpo
      have pj : ∀ a x, a ∈ own.sl j → H a = some x → upd H p o' a = some x := fun a x ha hx => by
        rw [upd_ne (fun e' => e (ok.dj j i a ha (by rw [e']; exact hpi)))]
        exact hx
      split
      · rename_i dp' d hf' he; rw [hf', he] at h; obtain ⟨x, h1, h2⟩ := h; exact ⟨x, h1, R.up (Up.write hH w (na _)) _ h2⟩
      · rename_i dp' d hf' he; rw [hf', he] at h; obtain ⟨x, h1, h2⟩ := h; exact ⟨x, h1, RO.up h2 (Up.write hH w (na _)) pj⟩
      · rename_i d hf' he; rw [hf', he] at h; obtain ⟨x, h1, h2, h3⟩ := h; exact ⟨x, h1, RO.up h2 (Up.write hH w (na _)) pj, h3⟩
      · rename_i hf'; rw [hf'] at h; simpa using h
      · trivial
  · obtain ⟨q1, q2⟩ := ok.lk a x h
    have ne : a ≠ p := fun e => by
      subst e
      rw [hH] at q1
      cases q1
      rcases q2 with q2 | q2
      · cases o <;> first | exact w.elim | exact q2.elim
      · exact q2 hpo
    exact ⟨by rw [upd_ne ne]; exact q1, q2⟩
/-- x.append(e) -/
def getL (i : Nat) (en : En) : Rs (List D) := match en[i]? with
  | some (some (.lst l)) => .ok l
  | _ => .error .stuck
def sApp (i : Nat) (ev : EvE) : EvS := fun en => bnd (getL i en) fun l => bnd (ev en) fun d => if l.length < sizeLine then .ok (.nx (en.set i (some (.lst (l ++ [d]))))) else .error .stuck
theorem getL_ok {i : Nat} {q : List D → Prop} (h : MtS G W c (getL i en) q) : ∃ l, en[i]? = some (some (.lst l)) ∧ q l := by
  unfold getL at h
  split at h
  · rename_i l e; exact ⟨l, e, h⟩
  · exact h.elim
/-- a slot that owns a list: its address, what it holds -/
theorem Ok.ownL (ok : Ok G c F en own σ H) {i : Nat} {dp : Bool} {l : List D} (hf : F[i]? = some (.o dp)) (he : en[i]? = some (some (.lst l))) : ∃ p xs, σ[i]? = some (some (.ref p)) ∧ own.sl i = [p] ∧ H p = some (.lst xs) ∧ RL G (Av c (ow own) dp) H l xs := by
  obtain ⟨x, h1, p, xs, e, eo, h2, h3⟩ := ok.ownR hf he
  exact ⟨p, xs, by rw [h1, e], eo, h2, h3⟩
theorem Ok.wrL (ok : Ok G c F en own σ H) {i : Nat} {dp dp' : Bool} {p : Addr} {xs ys : List V} {m : List D} (hf : F[i]? = some (.o dp)) (hp : own.sl i = [p]) (hH : H p = some (.lst xs)) (hσ : σ[i]? = some (some (.ref p)))
    (r : RL G (Av c (ow own) dp') H m ys) : Ok G c (F.set i (.o dp')) (en.set i (some (.lst m))) own σ (upd H p (.lst ys)) :=
  ok.wr hf hp hH trivial hσ ⟨p, ys, rfl, rfl, upd_same, RL.up (Up.write hH trivial fun z => z.1 (.inl ⟨i, by rw [hp]; simp⟩)) _ r⟩
theorem sig_inj {σ : L2.St} {i : Nat} {p q : Addr} (h : σ[i]? = some (some (.ref p))) (h' : σ[i]? = some (some (.ref q))) : p = q := by
  rw [h] at h'
  cases h'
  rfl
theorem ds_app (g : Gv G N sc X) (i : Nat) {x : Str} {e : Expr} {px apos cpos pos : Pos} {ev : EvE} {dp0 dp : Bool} (he : PE X e (TEv G S.W F F1 f ev)) (hN : N[i]? = some x := by rfl) (hv : visB sc x = true := by rfl) (hx : nameB x = true := by rfl) (hf0 : F[i]? = some (.o dp0) := by rfl) (hf : F1[i]? = some (.o dp) := by rfl) (hn : f.nb = true := by rfl)
    (hs : starEach [e] X.env = [(false, eval e X.env)] := by rfl) (hline : (apos.endLine == cpos.line) = true := by rfl) :
    PS X (.Expr (.Call (.Attribute (.Name x px) "append" apos) [e] [] cpos) pos) (TSv G S F (F1.set i (.o (dp && f.dp))) (sApp i ev)) := by
  obtain ⟨h1, h2, _⟩ := nameB_d hx
  refine ps_imp (ps_expr (pe_bm PySem.F.plainAttrs_list PySem.F.slot_list_append PySem.F.type_list_append mt_append (pe_var (i := i) (by rw [g.nN]; exact hN) (visB_vis hv g.sc) h1 h2) (pa_cons he pa_nil hs) rfl (by rw [hs]; rfl) hline hs rfl) rfl) ?_
  rintro D σ H ⟨c, en, own, ok, m⟩
  obtain ⟨l, hl, m⟩ := getL_ok m.bnd
  obtain ⟨p, xs, e1, e2, e3, e4⟩ := ok.ownL hf0 hl
  refine ⟨.ref p, e1, .inl ⟨rfl, xs, SqL.of e3⟩, c, en, own, ok, m.bnd.e.imp fun d _ q v H1 own1 ok1 s1 b1 r1 => ?_⟩
  obtain ⟨own1', ok1', k1, a1⟩ := r1.share ok1 hn
  obtain ⟨p', xs', e1', e2', e3', e4'⟩ := ok1'.ownL hf hl
  have ep := sig_inj e1 e1'
  subst ep
  split at q
  · rename_i hlen
    refine ⟨p, xs', v, rfl, rfl, e3', by rw [e4'.len]; exact hlen, q σ _ own1' (ok1'.wrL (dp' := dp && f.dp) hf e2' e3' e1' (RL.app ?_ (RL.cons ?_ RL.nil)))⟩
    · exact RL.up (Up.sub (fun _ h => h) (by cases dp <;> cases f.dp <;> rfl)) _ e4'
    · exact R.up (Up.sub (fun _ h => h) (by cases dp <;> cases f.dp <;> rfl)) _ a1
  · exact q.elim
/-- x.extend(e), e a list -/
def sExt (i : Nat) (ev : EvE) : EvS := fun en => bnd (getL i en) fun l => bnd (ev en) fun d => match d with
  | .lst m => if l.length + m.length ≤ sizeLine then .ok (.nx (en.set i (some (.lst (l ++ m))))) else .error .stuck
  | _ => .error .stuck
theorem ds_ext (g : Gv G N sc X) (i : Nat) {x : Str} {e : Expr} {px apos cpos pos : Pos} {ev : EvE} {dp0 dp : Bool} (he : PE X e (TEv G S.W F F1 f ev)) (hN : N[i]? = some x := by rfl) (hv : visB sc x = true := by rfl) (hx : nameB x = true := by rfl) (hf0 : F[i]? = some (.o dp0) := by rfl) (hf : F1[i]? = some (.o dp) := by rfl)
    (hs : starEach [e] X.env = [(false, eval e X.env)] := by rfl) (hline : (apos.endLine == cpos.line) = true := by rfl) :
    PS X (.Expr (.Call (.Attribute (.Name x px) "extend" apos) [e] [] cpos) pos) (TSv G S F (F1.set i (.o (dp && f.dp))) (sExt i ev)) := by
  obtain ⟨h1, h2, _⟩ := nameB_d hx
  refine ps_imp (ps_expr (pe_bm PySem.F.plainAttrs_list PySem.F.slot_list_extend PySem.F.type_list_extend mt_extend (pe_var (i := i) (by rw [g.nN]; exact hN) (visB_vis hv g.sc) h1 h2) (pa_cons he pa_nil hs) rfl (by rw [hs]; rfl) hline hs rfl) rfl) ?_
  rintro D σ H ⟨c, en, own, ok, m⟩
  obtain ⟨l, hl, m⟩ := getL_ok m.bnd
  obtain ⟨p, xs, e1, e2, e3, e4⟩ := ok.ownL hf0 hl
  refine ⟨.ref p, e1, .inl ⟨rfl, xs, SqL.of e3⟩, c, en, own, ok, m.bnd.e.imp fun d _ q v H1 own1 ok1 s1 b1 r1 => ?_⟩
  obtain ⟨p', xs', e1', e2', e3', e4'⟩ := ok1.ownL hf hl
  have ep := sig_inj e1 e1'
  subst ep
  cases d <;> first | exact q.elim | skip
  rename_i m
  dsimp only at q
  split at q
  · rename_i hlen
    obtain ⟨b, zs, rfl, e5, e6⟩ := r1.b
    refine ⟨p, b, xs', zs, rfl, rfl, e3', e5, by rw [e4'.len, e6.len]; exact hlen, q σ _ own1 (ok1.wrL (dp' := dp && f.dp) hf e2' e3' e1' (RL.app ?_ ?_))⟩
    · exact RL.up (Up.sub (fun _ h => h) (by cases dp <;> cases f.dp <;> rfl)) _ e4'
    · exact RL.up (Up.sub (fun _ h => h) (by cases dp <;> cases f.dp <;> rfl)) _ e6
  · exact q.elim
/-- x[k] = e, x a list -/
def sSub (i : Nat) (ek ev : EvE) : EvS := fun en => bnd (getL i en) fun l => bnd (ev en) fun d => bnd (ek en) fun kd => match kd with
  | .int j => match ixN l.length j with
    | some n => .ok (.nx (en.set i (some (.lst (l.set n d)))))
    | none => .error .stuck
  | _ => .error .stuck
theorem ds_sub (g : Gv G N sc X) (i : Nat) {x : Str} {e ix : Expr} {px spos pos : Pos} {ek ev : EvE} {dp0 dp : Bool} (he : PE X e (TEv G S.W F F1 f ev)) (hi : PE X ix (TEv G S.W F1 F2 f2 ek)) (hN : N[i]? = some x := by rfl) (hv : visB sc x = true := by rfl) (hx : nameB x = true := by rfl) (hf0 : F1[i]? = some (.o dp0) := by rfl) (hf : F2[i]? = some (.o dp) := by rfl) (hn : f.nb = true := by rfl)
    (hs : swapsWithSole [.Subscript (.Name x px) ix spos] e pos.line X.env = pure false := by rfl) (hw : swappedStores [.Subscript (.Name x px) ix spos] e X.env = pure none := by rfl)
    (ha : ∀ v, assign (.Subscript (.Name x px) ix spos) X.env v = (do
      let ov ← holding [v] (eval (.Name x px) X.env)
      let iv ← holding [v, ov] (eval ix X.env)
      standAt spos
      holding [v, ov, iv] (setItem ov iv v)
      release [v, ov, iv] []) := by intro _; rfl) :
    PS X (.Assign [.Subscript (.Name x px) ix spos] e pos) (TSv G S F (F2.set i (.o (dp && f.dp))) (sSub i ek ev)) := by
  obtain ⟨h1, h2, _⟩ := nameB_d hx
  refine ps_imp (ps_asg he (pg_sub (pe_var (i := i) (by rw [g.nN]; exact hN) (visB_vis hv g.sc) h1 h2) hi set_list ha) hs hw rfl) ?_
  rintro D σ H ⟨c, en, own, ok, m⟩
  obtain ⟨l, hl, m⟩ := getL_ok m.bnd
  refine ⟨c, en, own, ok, m.bnd.e.imp fun d _ q v H1 own1 ok1 s1 b1 r1 => ?_⟩
  obtain ⟨own1', ok1', k1, a1⟩ := r1.share ok1 hn
  obtain ⟨p, xs, e1, e2, e3, e4⟩ := ok1'.ownL hf0 hl
  refine ⟨.ref p, e1, c, en, own1', ok1', q.bnd.e.imp fun kd hkd q v2 H2 own2 ok2 s2 b2 r2 => ?_⟩
  obtain ⟨p', xs', e1', e2', e3', e4'⟩ := ok2.ownL hf hl
  have ep := sig_inj e1 e1'
  subst ep
  clear hkd
  cases kd <;> first | exact q.elim | skip
  rename_i j
  dsimp only at q
  split at q
  · rename_i n hj
    refine ⟨p, xs', j, n, rfl, r2.int, e3', by rw [e4'.len]; exact hj, q σ _ own2 (ok2.wrL (dp' := dp && f.dp) hf e2' e3' e1' (RL.set n ?_ ?_))⟩
    · exact RL.up (Up.sub (fun _ h => h) (by cases dp <;> cases f.dp <;> rfl)) _ e4'
    · exact R.up (Up.grow s2 b2 (by cases dp <;> cases f.dp <;> rfl)) _ a1
  · exact q.elim
end
end Pi
namespace Pi
open PySem PySem.Spec PyProof.Rows L2
open Classical in
/-- all that nobody owns stands from here on -/
noncomputable def Fr.pin (c : Fr) (own : Own) (H : Hp) : Fr := { c with L := fun b => match H b with
  | some o => if Im o ∨ ¬ ow own b then some o else none
  | none => none }
section
variable {G : Gb} {S : Se} {W : WX} {N : List Str} {sc : Scope} {k : Nat} {X : Cx} {F F1 F2 F3 Fh : List SF} {Fo : List SF} {f f1 f2 : VF} {c : Fr} {en : En} {own own0 : Own} {σ : L2.St} {H H' H0 : Hp}
theorem pin_at {a : Addr} {o : HO} (h : (c.pin own H).L a = some o) : H a = some o ∧ (Im o ∨ ¬ ow own a) := by
  unfold Fr.pin at h
  dsimp only at h
  split at h
  · rename_i o' e
    split at h
    · rename_i q
      cases h
      exact ⟨e, q⟩
    · cases h
  · cases h
theorem pin_of {a : Addr} {o : HO} (e : H a = some o) (q : Im o ∨ ¬ ow own a) : (c.pin own H).L a = some o := by
  unfold Fr.pin
  dsimp only
  rw [e]
  exact if_pos q
theorem Ok.fr {c' : Fr} (ok : Ok G c F en own σ H) (h0 : c'.H0 = c.H0) (hA : c'.A0 = c.A0) (hS : c'.S = c.S) (hl : ∀ a o, c'.L a = some o → H a = some o ∧ (Im o ∨ ¬ ow own a)) : Ok G c' F en own σ H := by
  obtain ⟨H0, A0, S, L⟩ := c
  obtain ⟨H0', A0', S', L'⟩ := c'
  dsimp only at h0 hA hS
  subst h0 hA hS
  exact ⟨ok.lF, ok.lE, ok.same, ok.tr, ok.dj, ok.dt, ok.nt, ok.nw, ok.sl, hl⟩
theorem Ok.pin (ok : Ok G c F en own σ H) : Ok G (c.pin own H) F en own σ H := ok.fr rfl rfl rfl fun _ _ h => pin_at h
theorem Ok.unpin (ok : Ok G (c.pin own0 H0) F en own σ H) (h : ∀ a o, c.L a = some o → H0 a = some o ∧ (Im o ∨ ¬ ow own0 a)) : Ok G c F en own σ H :=
  ok.fr rfl rfl rfl fun a o e => ok.lk a o (pin_of (h a o e).1 (h a o e).2)
theorem Up.pin {dp : Bool} (ok : Ok G (c.pin own0 H0) F en own σ H) : Up G.K (Av c (ow own0) dp) (Av c (ow own) dp) H0 H := by
  have m : ∀ {a o}, Av c (ow own0) dp a → H0 a = some o → ¬ Im o → Av c (ow own) dp a ∧ H a = some o := fun {a o} h e n => by
    obtain ⟨q1, q2⟩ := ok.lk a o (pin_of e (.inr h.1))
    exact ⟨⟨q2.resolve_left n, h.2.1, h.2.2⟩, q1⟩
  have t : ∀ {a o}, H0 a = some o → Im o → H a = some o := fun {a o} e n => (ok.lk a o (pin_of e (.inl n))).1
  refine ⟨fun a xs h e => m h e id, fun a kvs h e => ?_, fun a C dx fs h e => m h e id, fun a xs e => ?_, fun a xs e => e.imp (fun ⟨o, e⟩ => ⟨o, t e trivial⟩) id⟩
  · rcases e with e | ⟨o, e⟩
    · obtain ⟨q1, q2⟩ := m h e id
      exact ⟨q1, .inl q2⟩
    · obtain ⟨q1, q2⟩ := m h e id
      exact ⟨q1, .inr ⟨o, q2⟩⟩
  · rcases e with e | ⟨o, e⟩
    · exact .inl (t e trivial)
    · exact .inr ⟨o, t e trivial⟩
/-! ### what is walked -/
structure ItS (G : Gb) (c : Fr) (J : It) (dp : Bool) (ds : List D) : Prop where
  go : ∀ {F en own σ H i d}, Ok G c F en own σ H → ds[i]? = some d → J.go i H ∧ ∀ x H', J.yld i H x H' → Same H H' ∧ R G (Av c (ow own) dp) H' d x
  stop : ∀ {F en own σ H}, Ok G c F en own σ H → J.stop ds.length H
abbrev EvI := En → Rs (List D)
def TIv (G : Gb) (W : WX) (F F' : List SF) (dp : Bool) (ev : EvI) : TI := fun σ H R => ∃ (c : Fr) (en : En) (own : Own), Ok G c F en own σ H ∧
  Mt G W c σ (ev en) fun ds => ∀ J H' own', Ok G c F' en own' σ H' → Same H H' → Sub (ow own) (ow own') H → ItS G (c.pin own' H') J dp ds → R J H'
theorem pi_imp {X : Cx} {tg e : Expr} {t t' : TI} (h : PI X tg e t) (m : ∀ σ H Q, t' σ H Q → t σ H Q) : PI X tg e t' := ⟨fun pins s σ H Q I q => h.run pins s σ H Q I (m σ H Q q)⟩
def itemsL : D → Option (List D)
  | .lst l => some l
  | .scr l => some (l.map .int)
  | _ => none
def itemsT : D → Option (List D)
  | .tup l => some l
  | _ => none
def iL (ev : EvE) : EvI := fun en => bnd (ev en) fun d => ofO (itemsL d)
def iT (ev : EvE) : EvI := fun en => bnd (ev en) fun d => ofO (itemsT d)
theorem scr_at {l : List Int} {i : Nat} {d : D} (h : (l.map D.int)[i]? = some d) : ∃ z, d = .int z ∧ (l.map V.int)[i]? = some (.int z) := by
  rw [List.getElem?_map] at h ⊢
  cases q : l[i]? with
  | none => rw [q] at h; cases h
  | some z => rw [q] at h; cases h; exact ⟨z, rfl, rfl⟩
theorem its_list {dp : Bool} {d : D} {ds : List D} {a : Addr} (h : R G (Av c (ow own0) dp) H0 d (.ref a)) (e : itemsL d = some ds) : (∃ xs, SqL G.K H0 a xs) ∧ ItS G (c.pin own0 H0) (Itl G.K a) dp ds := by
  cases d <;> first | (cases e; done) | skip
  · rename_i l
    obtain rfl := Option.some.inj e
    clear e
    refine ⟨by obtain ⟨a', xs, e, _, h1, _⟩ := h; cases e; exact ⟨xs, SqL.of h1⟩, fun {F en own σ H i d} ok hd => ?_, fun {F en own σ H} ok => ?_⟩
    · obtain ⟨a', xs, e, _, h1, r⟩ := R.up (Up.pin ok) _ h
      cases e
      obtain ⟨x, hx, rx⟩ := r.get hd
      refine ⟨⟨xs, x, SqL.of h1, hx⟩, fun y H' z => ?_⟩
      obtain ⟨rfl, z⟩ := z
      have := z xs (SqL.of h1)
      rw [hx] at this
      cases this
      exact ⟨Same.refl _, rx⟩
    · obtain ⟨a', xs, e, _, h1, r⟩ := R.up (Up.pin ok) _ h
      cases e
      exact ⟨xs, SqL.of h1, by rw [r.len]; exact Nat.le_refl _⟩
  · rename_i l
    obtain rfl := Option.some.inj e
    clear e
    refine ⟨by obtain ⟨a', e, h1⟩ := h; cases e; exact ⟨_, h1.sq⟩, fun {F en own σ H i d} ok hd => ?_, fun {F en own σ H} ok => ?_⟩
    · obtain ⟨a', e, h1⟩ := R.up (Up.pin ok) _ h
      cases e
      obtain ⟨z0, rfl, hz⟩ := scr_at hd
      refine ⟨⟨_, _, h1.sq, hz⟩, fun y H' z => ?_⟩
      obtain ⟨rfl, z⟩ := z
      have := z _ h1.sq
      rw [hz] at this
      cases this
      exact ⟨Same.refl _, rfl⟩
    · obtain ⟨a', e, h1⟩ := R.up (Up.pin ok) _ h
      cases e
      exact ⟨_, h1.sq, by simp⟩
theorem itemsL_ref {A : Addr → Prop} {d : D} {ds : List D} {v : V} (h : R G A H d v) (e : itemsL d = some ds) : ∃ a, v = .ref a := by
  cases d <;> first | cases e | skip
  · obtain ⟨a, _, e, _⟩ := h; exact ⟨a, e⟩
  · obtain ⟨a, e, _⟩ := h; exact ⟨a, e⟩
theorem di_list (g : Gd G N sc k W X) {tg e : Expr} {ev : EvE} (he : PE X e (TEv G W F F1 f ev)) (hn : f.nb = true := by rfl) : PI X tg e (TIv G W F F1 f.dp (iL ev)) := by
  refine pi_imp (pi_list he) ?_
  rw [g.K]
  rintro σ H Q ⟨c, en, own, ok, m⟩
  refine ⟨c, en, own, ok, m.bnd.imp fun d hd0 q v H1 own1 ok1 s1 b1 r1 => ?_⟩
  clear hd0
  obtain ⟨ds, ed, q⟩ := q.ofO
  obtain ⟨own2, ok2, sb, r2⟩ := r1.share ok1 hn
  obtain ⟨a, rfl⟩ := itemsL_ref r2 ed
  obtain ⟨h1, h2⟩ := its_list r2 ed
  exact ⟨a, rfl, h1, q _ H1 own2 ok2 s1 (fun a z => b1 a (sb a z)) h2⟩
theorem di_tup (g : Gd G N sc k W X) {tg e : Expr} {ev : EvE} (he : PE X e (TEv G W F F1 f ev)) (hn : f.nb = true := by rfl) : PI X tg e (TIv G W F F1 f.dp (iT ev)) := by
  refine pi_imp (pi_tup he) ?_
  rw [g.K]
  rintro σ H Q ⟨c, en, own, ok, m⟩
  refine ⟨c, en, own, ok, m.bnd.imp fun d hd0 q v H1 own1 ok1 s1 b1 r1 => ?_⟩
  clear hd0
  obtain ⟨ds, ed, q⟩ := q.ofO
  obtain ⟨own2, ok2, sb, r2⟩ := r1.share ok1 hn
  cases d <;> first | cases ed | skip
  obtain ⟨a, xs, e, h1, r⟩ := id r2
  subst e
  refine ⟨a, rfl, ⟨xs, h1⟩, q _ H1 own2 ok2 s1 (fun a z => b1 a (sb a z)) ⟨fun {F en own σ H i d} ok hd => ?_, fun {F en own σ H} ok => ?_⟩⟩
  · obtain ⟨a', xs, e, h1, r⟩ := R.up (Up.pin ok) _ r2
    cases e
    obtain ⟨x, hx, rx⟩ := r.get hd
    refine ⟨⟨xs, x, h1, hx⟩, fun y H' z => ?_⟩
    obtain ⟨rfl, z⟩ := z
    have := z xs h1
    rw [hx] at this
    cases this
    exact ⟨Same.refl _, rx⟩
  · obtain ⟨a', xs, e, h1, r⟩ := R.up (Up.pin ok) _ r2
    cases e
    exact ⟨xs, h1, by rw [r.len]; exact Nat.le_refl _⟩
/-- whole numbers from lo on -/
def irng (lo : Int) (n : Nat) : List D := (List.range n).map fun i : Nat => .int (lo + i)
def bd62 (i : Int) : Bool := decide (-(2 ^ 62) ≤ i) && decide (i < 2 ^ 62)
theorem bd62_of {i : Int} (h : bd62 i = true) : -(2 ^ 62) ≤ i ∧ i < 2 ^ 62 := by simpa [bd62] using h
theorem its_rng {lo : Int} {n : Nat} {dp : Bool} : ItS G c (Itr lo n) dp (irng lo n) := by
  refine ⟨fun {F en own σ H i d} ok hd => ?_, fun {F en own σ H} ok => ?_⟩
  · unfold irng at hd
    rw [List.getElem?_map] at hd
    by_cases hi : i < n
    · rw [List.getElem?_range hi] at hd
      cases hd
      exact ⟨hi, fun x H' z => by obtain ⟨rfl, rfl⟩ := z; exact ⟨Same.refl _, rfl⟩⟩
    · rw [List.getElem?_eq_none (by simpa using hi)] at hd
      cases hd
  · show n ≤ _
    simp [irng]
def oRng : List D → Option (List D)
  | [.int j] => if bd62 j = true then some (irng 0 j.toNat) else none
  | [.int i, .int j] => if bd62 i = true ∧ bd62 j = true then some (irng i (j - i).toNat) else none
  | _ => none
def iRn (ea : En → Rs (List D)) : EvI := fun en => bnd (ea en) fun ds => ofO (oRng ds)
theorem di_range1 (g : Gd G N sc k W X) {tg a : Expr} {p pos : Pos} {ea : En → Rs (List D)} (hm : G.mg "range" = none) (ha : PA X [a] (TAv G W F F1 [f] ea)) (hg : glbB sc "range" = true := by rfl) (hs : starEach [a] X.env = [(false, eval a X.env)] := by rfl) :
    PI X tg (.Call (.Name "range" p) [a] [] pos) (TIv G W F F1 true (iRn ea)) := by
  refine pi_imp (pi_range1 (glbB_gl hg g.sc) (by rw [g.mg]; exact hm) ha hs) ?_
  rintro σ H Q ⟨c, en, own, ok, m⟩
  refine ⟨c, en, own, ok, m.bnd.imp fun ds hd0 q vs H1 own1 ok1 s1 b1 r1 => ?_⟩
  clear hd0
  obtain ⟨its, e, q⟩ := q.ofO
  obtain ⟨d, r, v, t, rfl, rfl, h1, h2⟩ := r1
  obtain ⟨rfl, rfl⟩ := h2
  cases d <;> first | (cases e; done) | skip
  rename_i j
  simp only [oRng] at e
  split at e
  · rename_i hb
    obtain rfl := Option.some.inj e
    obtain ⟨z1, z2⟩ := bd62_of hb
    exact ⟨j, by rw [show v = .int j from h1.b], z1, z2, q _ H1 own1 ok1 s1 b1 its_rng⟩
  · cases e
theorem di_range2 (g : Gd G N sc k W X) {tg a b : Expr} {p pos : Pos} {ea : En → Rs (List D)} (hm : G.mg "range" = none) (ha : PA X [a, b] (TAv G W F F1 [f, f2] ea)) (hg : glbB sc "range" = true := by rfl) (hs : starEach [a, b] X.env = [(false, eval a X.env), (false, eval b X.env)] := by rfl) (hs2 : starEach [b] X.env = [(false, eval b X.env)] := by rfl) :
    PI X tg (.Call (.Name "range" p) [a, b] [] pos) (TIv G W F F1 true (iRn ea)) := by
  refine pi_imp (pi_range2 (glbB_gl hg g.sc) (by rw [g.mg]; exact hm) ha hs hs2) ?_
  rintro σ H Q ⟨c, en, own, ok, m⟩
  refine ⟨c, en, own, ok, m.bnd.imp fun ds hd0 q vs H1 own1 ok1 s1 b1 r1 => ?_⟩
  clear hd0
  obtain ⟨its, e, q⟩ := q.ofO
  obtain ⟨d, r, v, t, rfl, rfl, h1, d2, r2, v2, t2, rfl, rfl, h2, h3⟩ := r1
  obtain ⟨rfl, rfl⟩ := h3
  cases d <;> first | (cases e; done) | skip
  cases d2 <;> first | (cases e; done) | skip
  rename_i i j
  simp only [oRng] at e
  split at e
  · rename_i hb
    obtain rfl := Option.some.inj e
    obtain ⟨z1, z2⟩ := bd62_of hb.1
    obtain ⟨z3, z4⟩ := bd62_of hb.2
    exact ⟨i, j, by rw [show v = .int i from h1.b, show v2 = .int j from h2.b], ⟨z1, z2, z3, z4⟩, q _ H1 own1 ok1 s1 b1 its_rng⟩
  · cases e
/-- range with a step -/
def oRng3 : List D → Option (List D)
  | [.int i, .int j, .int c] => if c ≠ 0 ∧ c.natAbs < 1073741824 ∧ Builtin.Range.small i j c = true then some ((List.range (Builtin.Range.rangeSize i j c).toNat).map fun n : Nat => .int (i + n * c)) else none
  | _ => none
def iRn3 (ea : En → Rs (List D)) : EvI := fun en => bnd (ea en) fun ds => ofO (oRng3 ds)
theorem its_rng3 {lo s : Int} {n : Nat} {dp : Bool} : ItS G c (Itc lo s n) dp ((List.range n).map fun n : Nat => .int (lo + n * s)) := by
  refine ⟨fun {F en own σ H i d} ok hd => ?_, fun {F en own σ H} ok => ?_⟩
  · rw [List.getElem?_map] at hd
    by_cases hi : i < n
    · rw [List.getElem?_range hi] at hd
      cases hd
      exact ⟨hi, fun x H' z => by obtain ⟨rfl, rfl⟩ := z; exact ⟨Same.refl _, rfl⟩⟩
    · rw [List.getElem?_eq_none (by simpa using hi)] at hd
      cases hd
  · show n ≤ _
    simp
theorem di_range3 (g : Gd G N sc k W X) {tg a b b3 : Expr} {p pos : Pos} {f3 : VF} {ea : En → Rs (List D)} (hm : G.mg "range" = none) (ha : PA X [a, b, b3] (TAv G W F F1 [f, f2, f3] ea)) (hg : glbB sc "range" = true := by rfl) (hs : starEach [a, b, b3] X.env = (false, eval a X.env) :: starEach [b, b3] X.env := by rfl) (hpl : (backTo pos (starEach [b, b3] X.env)).any (·.1) = false := by rfl) :
    PI X tg (.Call (.Name "range" p) [a, b, b3] [] pos) (TIv G W F F1 true (iRn3 ea)) := by
  refine pi_imp (pi_range3 (glbB_gl hg g.sc) (by rw [g.mg]; exact hm) ha hs hpl) ?_
  rintro σ H Q ⟨c, en, own, ok, m⟩
  refine ⟨c, en, own, ok, m.bnd.imp fun ds hd0 q vs H1 own1 ok1 s1 b1 r1 => ?_⟩
  clear hd0
  obtain ⟨its, e, q⟩ := q.ofO
  obtain ⟨d, r, v, t, rfl, rfl, h1, d2, r2, v2, t2, rfl, rfl, h2, d3, r3, v3, t3, rfl, rfl, h3, h4⟩ := r1
  obtain ⟨rfl, rfl⟩ := h4
  cases d <;> first | (cases e; done) | skip
  cases d2 <;> first | (cases e; done) | skip
  cases d3 <;> first | (cases e; done) | skip
  rename_i i j s
  simp only [oRng3] at e
  split at e
  · rename_i hb
    obtain rfl := Option.some.inj e
    have hz : 0 ≤ Builtin.Range.rangeSize i j s := by
      unfold Builtin.Range.rangeSize
      split
      · split
        · exact Int.add_nonneg (Int.ediv_nonneg (by omega) (by omega)) (by decide)
        · exact Int.le_refl _
      · split
        · exact Int.add_nonneg (Int.ediv_nonneg (by omega) (by omega)) (by decide)
        · exact Int.le_refl _
    exact ⟨i, j, s, _, by rw [show v = .int i from h1.b, show v2 = .int j from h2.b, show v3 = .int s from h3.b], ⟨hb.1, hb.2.1, hb.2.2, (Int.toNat_of_nonneg hz).symm⟩, q _ H1 own1 ok1 s1 b1 its_rng3⟩
  · cases e
/-- the signs of a text -/
def signs (x : Str) : List D := x.cps.toList.map fun c => .str ⟨#[c]⟩
def itemsS : D → Option (List D)
  | .str x => some (signs x)
  | _ => none
def iS (ev : EvE) : EvI := fun en => bnd (ev en) fun d => ofO (itemsS d)
theorem di_str (g : Gd G N sc k W X) {tg e : Expr} {ev : EvE} (he : PE X e (TEv G W F F1 f ev)) : PI X tg e (TIv G W F F1 true (iS ev)) := by
  refine pi_imp (pi_str he) ?_
  rintro σ H Q ⟨c, en, own, ok, m⟩
  refine ⟨c, en, own, ok, m.bnd.imp fun d hd0 q v H1 own1 ok1 s1 b1 r1 => ?_⟩
  clear hd0
  obtain ⟨ds, ed, q⟩ := q.ofO
  cases d <;> first | (cases ed; done) | skip
  rename_i x
  obtain rfl := Option.some.inj ed
  refine ⟨x, r1.str, q _ H1 own1 ok1 s1 b1 ⟨fun {F en own σ H i d} ok hd => ?_, fun {F en own σ H} ok => ?_⟩⟩
  · unfold signs at hd
    rw [List.getElem?_map] at hd
    by_cases hi : i < x.cps.size
    · rw [List.getElem?_eq_getElem (by simpa using hi)] at hd
      cases hd
      refine ⟨hi, fun y H' z => ?_⟩
      obtain ⟨rfl, z0, e1, rfl⟩ := z
      rw [Array.getElem?_eq_getElem hi] at e1
      cases e1
      exact ⟨Same.refl _, by simp [R]⟩
    · rw [List.getElem?_eq_none (by simpa using hi)] at hd
      cases hd
  · show x.cps.size ≤ _
    simp [signs]
/-! ### for -/
structure TgO (G : Gb) (X : Cx) (tg : Expr) (gg : TG) (F F2 : List SF) (dp : Bool) (is : List Nat) (set : En → D → Option En) : Prop where
  pg : PG X tg gg
  ok : ∀ {c en own σ H d v en' Q}, Ok G c F en own σ H → R G (Av c (ow own) dp) H d v → set en d = some en' → (∀ σ' own', Ok G c F2 en' own' σ' H → (∀ a, ow own' a → ow own a) → (σ'.length = σ.length ∧ ∀ j, j ∉ is → σ'[j]? = σ[j]?) → Q σ' H) → gg v σ H Q
def set1 (i : Nat) (en : En) (d : D) : Option En := some (en.set i (some d))
def setT (is : List Nat) (en : En) : D → Option En
  | .tup ds => if ds.length = is.length then some (setAll en is ds) else none
  | _ => none
theorem tg_name (g : Gv G N sc X) (hfn : ∀ x, X.fn x = true) (i : Nat) {x : Str} {pos : Pos} {dp : Bool} (hN : N[i]? = some x := by rfl) (hx : locB sc x = true := by rfl) (hz : zB F i = true := by rfl) : TgO G X (.Name x pos) (gName i) F (F.set i (.s dp)) dp [i] (set1 i) := by
  refine ⟨pg_name (by rw [g.nN]; exact g.nd) (by rw [g.nN]; exact hN) (locB_loc hx g.sc) (.inl (hfn x)), fun {c en own σ H d v en' Q} ok r e q => ?_⟩
  cases e
  obtain ⟨h1, h2⟩ := zB_of hz
  obtain ⟨own2, ok2, sb⟩ := ok.put (f := .sh dp) h1 h2 r rfl
  exact q _ own2 ok2 sb ⟨by simp, fun j hj => List.getElem?_set_ne (fun e => hj (by simp [e]))⟩
theorem tg_nameB (g : Gv G N sc X) (i : Nat) {x : Str} {pos : Pos} {dp : Bool} (hN : N[i]? = some x := by rfl) (hx : plainLocB sc x = true := by rfl) (hz : zB F i = true := by rfl) : TgO G X (.Name x pos) (gName i) F (F.set i (.s dp)) dp [i] (set1 i) := by
  refine ⟨pg_name (by rw [g.nN]; exact g.nd) (by rw [g.nN]; exact hN) (.inl (plainLocB_loc hx g.sc)) (.inr (plainLocB_loc hx g.sc)), fun {c en own σ H d v en' Q} ok r e q => ?_⟩
  cases e
  obtain ⟨h1, h2⟩ := zB_of hz
  obtain ⟨own2, ok2, sb⟩ := ok.put (f := .sh dp) h1 h2 r rfl
  exact q _ own2 ok2 sb ⟨by simp, fun j hj => List.getElem?_set_ne (fun e => hj (by simp [e]))⟩
theorem names_core2 {dp : Bool} : ∀ {is : List Nat} {es : List Expr} {F : List SF} {en : En} {own : Own} {σ : L2.St} {ds : List D} {vs : List V} {Q : L2.St → Hp → Prop}, tgB N sc F is es = true → Ok G c F en own σ H → RL G (Av c (ow own) dp) H ds vs → ds.length = is.length →
    (∀ σ' own', Ok G c (setF F (.s dp) is) (setAll en is ds) own' σ' H → (∀ a, ow own' a → ow own a) → (σ'.length = σ.length ∧ ∀ j, j ∉ is → σ'[j]? = σ[j]?) → Q σ' H) → gNames is vs σ H Q
  | [], [], F, en, own, σ, ds, vs, Q, _, ok, r, hl, q => by
    cases ds with
    | nil => exact ⟨r, q σ own ok (fun _ h => h) ⟨rfl, fun _ _ => rfl⟩⟩
    | cons _ _ => cases hl
  | i :: is, .Name x p :: es, F, en, own, σ, ds, vs, Q, h, ok, r, hl, q => by
    cases ds with
    | nil => cases hl
    | cons d ds =>
      obtain ⟨v, t, e, r1, r2⟩ := r
      simp only [tgB, Bool.and_eq_true] at h
      obtain ⟨h1, h2⟩ := zB_of h.1.2
      obtain ⟨own2, ok2, sb⟩ := ok.put (f := .sh dp) h1 h2 r1 rfl
      exact ⟨v, t, e, names_core2 (tgB_set (f := .s dp) (by simp) h.2) ok2 (RL.up (Up.sub sb (by cases dp <;> rfl)) _ r2) (Nat.succ.inj hl) fun σ' own' ok' sb' z => q σ' own' ok' (fun a z => sb a (sb' a z)) ⟨by rw [z.1]; simp, fun j hj => by
        rw [z.2 j (fun h => hj (List.mem_cons_of_mem _ h))]
        exact List.getElem?_set_ne (fun e => hj (by simp [e]))⟩⟩
  | [], e :: es, _, _, _, _, _, _, _, h, _, _, _, _ => by cases e <;> cases h
  | i :: is, [], _, _, _, _, _, _, _, h, _, _, _, _ => by cases h
theorem tg_tup (g : Gd G N sc k W X) (hfn : ∀ x, X.fn x = true) (is : List Nat) {es : List Expr} {n : Nat} {tp : Pos} {dp : Bool} (ht : tgB N sc F is es = true := by rfl) : TgO G X (.Tuple es n tp) (gTup G.K is.length (gNames is)) F (setF F (.s dp) is) dp is (setT is) := by
  obtain ⟨h1, h2, h3⟩ := dg_names g.nN g.nd g.sc (fun x _ => .inl (hfn x)) ht
  refine ⟨by rw [← g.K]; exact pg_tup (n := is.length) g.calm h1 h2 h3, fun {c en own σ H d v en' Q} ok r e q => ?_⟩
  cases d <;> first | (cases e; done) | skip
  rename_i ds
  simp only [setT] at e
  split at e
  · rename_i hl
    cases e
    obtain ⟨a, xs, rfl, hq, rl⟩ := r
    exact ⟨a, xs, rfl, hq, by rw [rl.len]; exact hl, names_core2 ht ok rl hl q⟩
  · cases e
/-- no name here is a cell -/
def tgP (sc : Scope) : Bool := sc.names.all fun y => !decide (y.2 = .cell)
theorem tgP_of (h : tgP sc = true) (e : X.env.scope = sc) (x : Str) (hx : locB sc x = true) : X.fn x = true ∨ X.env.scope.names.lookup x = some .local := by
  rw [e]
  unfold locB at hx
  split at hx
  · rename_i z; exact .inr z
  · rename_i z
    have := List.all_eq_true.mp h _ (PySem.mem_of_lookup z)
    simp at this
  · cases hx
theorem tg_tupB (g : Gd G N sc k W X) (is : List Nat) {es : List Expr} {n : Nat} {tp : Pos} {dp : Bool} (ht : tgB N sc F is es = true := by rfl) (hp : tgP sc = true := by rfl) : TgO G X (.Tuple es n tp) (gTup G.K is.length (gNames is)) F (setF F (.s dp) is) dp is (setT is) := by
  obtain ⟨h1, h2, h3⟩ := dg_names g.nN g.nd g.sc (tgP_of hp g.sc) ht
  refine ⟨by rw [← g.K]; exact pg_tup (n := is.length) g.calm h1 h2 h3, fun {c en own σ H d v en' Q} ok r e q => ?_⟩
  cases d <;> first | (cases e; done) | skip
  rename_i ds
  simp only [setT] at e
  split at e
  · rename_i hl
    cases e
    obtain ⟨a, xs, rfl, hq, rl⟩ := r
    exact ⟨a, xs, rfl, hq, by rw [rl.len]; exact hl, names_core2 ht ok rl hl q⟩
  · cases e
def evFor (set : En → D → Option En) (b : EvS) : List D → En → Rs Fl
  | [], en => .ok (.nx en)
  | d :: ds, en => bnd (ofO (set en d)) fun en1 => bnd (b en1) fun fl => match fl with
    | .nx en2 => evFor set b ds en2
    | .ct en2 => evFor set b ds en2
    | .rt v => .ok (.rt v)
def sFor (ev : EvI) (set : En → D → Option En) (b : EvS) : EvS := fun en => bnd (ev en) fun ds => evFor set b ds en
theorem ds_for (g : Gs G N sc k S.W X) {tg iter : Expr} {body : List Stmt} {pos : Pos} {gg : TG} {dp : Bool} {evI : EvI} {set : En → D → Option En} {eb : EvS} (hi : PI X tg iter (TIv G S.W F F1 dp evI)) {is : List Nat} (ht : TgO G X tg gg Fh F2 dp is set) (hb : PSs X body (TSv G { S with Fc := Fh } F2 Fh eb)) (hw : wkL F1 Fh = true := by rfl)
    (hs : ∀ x, foldedSetIterable iter X.env x = pure x := by intro _; rfl) : PS X (.For tg iter body [] pos) (TSv G S F Fh (sFor evI set eb)) := by
  refine ps_imp (ps_for g.g.po g.g.calm hi ht.pg hb hs) ?_
  rintro D σ H ⟨c, en, own, ok, m⟩
  refine ⟨c, en, own, ok, m.bnd.e.imp fun ds _ q J H1 own1 ok1 s1 b1 its => ?_⟩
  have hlk := ok1.lk
  have okp := ok1.pin
  obtain ⟨own2, ok2, sb, _⟩ := okp.weak hw
  refine ⟨fun i m σ H => m = ds.length - i ∧ i ≤ ds.length ∧ ∃ en own, Ok G (c.pin own1 H1) Fh en own σ H ∧ MtS G S.W c (evFor set eb (ds.drop i) en) (Aft G S c Fh D), ⟨_, rfl, Nat.zero_le _, en, own2, ok2, q⟩, ?_⟩
  rintro i m σ H ⟨rfl, hi, en, own, ok, q⟩
  by_cases hlt : i < ds.length
  · have hd : ds[i]? = some ds[i] := List.getElem?_eq_getElem hlt
    obtain ⟨hgo, hy⟩ := its.go ok hd
    rw [List.drop_eq_getElem_cons hlt] at q
    obtain ⟨en1, e1, q⟩ := MtS.ofO (MtS.bnd q)
    refine .inr ⟨hgo, fun σ' H' => ∃ en own, Ok G (c.pin own1 H1) Fh en own σ' H' ∧ MtS G S.W c (evFor set eb (ds.drop (i + 1)) en) (Aft G S c Fh D), fun σ' H' q' => ⟨_, by omega, rfl, hlt, q'⟩, fun x H' y => ?_⟩
    obtain ⟨sm, r⟩ := hy x H' y
    refine ht.ok (ok.grow sm) r e1 fun σ2 own2 ok2 _ _ => ⟨c.pin own1 H1, en1, own2, ok2, (MtS.bnd q).imp fun fl _ q => ?_⟩
    cases fl with
    | nx en2 => exact fun σ' H' own' ok' => ⟨en2, own', ok', q⟩
    | ct en2 => exact fun σ' H' own' ok' => ⟨en2, own', ok', q⟩
    | rt v => exact fun v' H' sm lkk rr => q v' H' sm (fun a o e => lkk a o (pin_of (hlk a o e).1 (hlk a o e).2)) rr
  · have e : i = ds.length := by omega
    subst e
    rw [List.drop_length] at q
    exact .inl ⟨its.stop ok, q σ H own (ok.unpin hlk)⟩
end
end Pi
namespace Pi
open PySem PySem.Spec PyProof.Rows L2
/-! ### a def by its body -/
def F0 (n m : Nat) : List SF := List.replicate n (.s false) ++ List.replicate m .n
def endR : Rs Fl → Rs D
  | .ok (.nx _) => .ok .non
  | .ok (.rt d) => .ok d
  | .ok (.ct _) => .error .stuck
  | .error e => .error e
/-- the def with n parameters and m other names -/
def runF (m : Nat) (st : EvS) (ds : List D) : Rs D := endR (st (ds.map some ++ List.replicate m none))
def Fr.new (H : Hp) (A0 : Addr → Prop) : Fr := ⟨H, A0, fun _ => False, fun _ => none⟩
def Own.new : Own := ⟨fun _ => [], fun _ => False⟩
section
variable {G : Gb} {H : Hp} {A0 : Addr → Prop}
theorem start_ok {n m : Nat} {N : List Str} {ds : List D} {vs : List V} (hN : N.length = n + m) (hv : vs.length = n) (r : RL G A0 H ds vs) : Ok G (Fr.new H A0) (F0 n m) (ds.map some ++ List.replicate m none) Own.new (L2.start N vs) H := by
  have hd : ds.length = n := by rw [← r.len]; exact hv
  have now : ∀ a, ¬ ow Own.new a := fun a h => by
    rcases h with ⟨i, h⟩ | h
    · cases h
    · exact h
  have hl : (L2.start N vs).length = n + m := by
    unfold L2.start
    rw [List.length_append, List.length_map, List.length_replicate, hN, hv]
    omega
  refine { lF := by rw [hl]; simp [F0], lE := by rw [hl]; simp [hd], same := fun b o _ e => e, tr := fun a h => False.elim h, dj := fun i j a h _ => (nomatch h), dt := fun i a h => (nomatch h), nt := fun a h => False.elim h, nw := fun i a h => (nomatch h), sl := fun i => ?_, lk := fun a o h => (nomatch h) }
  unfold Slt
  by_cases hi : i < n
  · have e1 : (F0 n m)[i]? = some (.s false) := by
      unfold F0
      rw [List.getElem?_append_left (by simpa using hi), List.getElem?_replicate, if_pos hi]
    obtain ⟨d, hd'⟩ : ∃ d, ds[i]? = some d := ⟨ds[i]'(by omega), List.getElem?_eq_getElem (by omega)⟩
    obtain ⟨x, hx, rx⟩ := r.get hd'
    have e2 : (ds.map some ++ List.replicate m none)[i]? = some (some d) := by
      rw [List.getElem?_append_left (by simp; omega), List.getElem?_map, hd']
      rfl
    rw [e1, e2]
    refine ⟨x, ?_, R.up (Up.same (Same.refl H) fun a h => ⟨now a, fun z => (nomatch z), .inr h⟩) _ rx⟩
    unfold L2.start
    rw [List.getElem?_append_left (by simp; omega), List.getElem?_map, hx]
    rfl
  · have e1 : (F0 n m)[i]? = some .n ∨ (F0 n m)[i]? = none := by
      unfold F0
      rw [List.getElem?_append_right (by simp; omega), List.getElem?_replicate]
      split
      · exact .inl rfl
      · exact .inr rfl
    rcases e1 with e | e <;> rw [e] <;> simp
theorem spF_len {md : Bool} {n : Nat} {fn : List D → Rs D} : ∀ vs H Q E, spF G md n fn vs H Q E → vs.length = n := fun _ _ _ _ h => h.1
/-- the context of a def's body -/
theorem gs_of {N : List Str} {sc : Scope} {k : Nat} {qual : Str} {f : Addr} {cdv : Value} {A : Around} {outer : List Env} {s : Shared} {E : XK} (hN : N.Nodup) (hk : sc.kind = .function) (hr : Room k (A.deeper (envOfC qual sc s.heap.objs.size f cdv))) :
    Gs G N sc k (fun cls d _ H => E cls d H) (cxOf (L2.CX G.P G.w) G.P G.w G.K G.mg G.base N qual sc f cdv A outer s H E) :=
  ⟨{ prog := rfl, w := rfl, K := rfl, mg := rfl, base := rfl, nN := rfl, nd := hN, sc := rfl, un := hr.units, calm := rfl, room := hr, tk := takes_of rfl rfl rfl rfl, po := passes_of rfl }, fun _ => rfl, hk, rfl, rfl⟩
theorem fn_ok {x qual : Str} {params : Arguments} {body : List Stmt} {sc : Scope} {dvs : List V} {kws : List (Str × V)} {f : Addr} {fd : FuncData} {N ps : List Str} {k n m : Nat} {md : Bool} {st : EvS} {Fo : List SF} (F : FunD G.K x qual params body sc dvs kws f fd) (S : FnScope N ps sc) (hp : ps.length = n) (hN : N.length = n + m)
    (hb : ∀ (X : Cx) (W : WX), Gs G N sc k W X → PSs X body (TSv G ⟨md, W, []⟩ (F0 n m) Fo st)) : FnOk G.P G.w G.K G.mg G.base (L2.CX G.P G.w) (k + 1) f fd ps (spF G md n (runF m st)) := by
  refine F.ok S (fun vs H Q E h => by rw [hp]; exact h.1) fun cdv A outer s H vs Q E hr h => ⟨_, hb _ _ (gs_of S.nd S.kind hr), ?_⟩
  obtain ⟨hv, ds, A0, r, q⟩ := h
  refine ⟨Fr.new H A0, _, Own.new, start_ok hN hv r, ?_⟩
  unfold runF at q
  revert q
  cases e : st (ds.map some ++ List.replicate m none) with
  | ok fl =>
    cases fl with
    | nx en =>
      intro q σ' H' own' ok'
      refine q .non H' (fun b o z => ok'.same b o id z) ?_
      cases md with
      | true => exact ⟨[], ⟨rfl, rfl⟩, fun a h => by cases h⟩
      | false => exact rfl
    | rt d =>
      intro q v H' sm _ rr
      exact q v H' (fun b o z => sm b o id z) rr
    | ct en => exact fun q => q.elim
  | error er =>
    cases er with
    | stuck => exact fun q => q.elim
    | raise e => exact fun q σ' H' sm => q H' fun b o z => sm b o id z
theorem fn_cal {x qual : Str} {params : Arguments} {body : List Stmt} {sc : Scope} {kws : List (Str × V)} {f : Addr} {fd : FuncData} {N ps : List Str} {k n m : Nat} {md : Bool} {st : EvS} {Fo : List SF} (F : FunD G.K x qual params body sc [] kws f fd) (hg : G.mg x = some (.ref f)) (S : FnScope N ps sc) (hp : ps.length = n) (hN : N.length = n + m)
    (hbd : Binds G.K fd ps [])
    (hb : ∀ (X : Cx) (W : WX), Gs G N sc k W X → PSs X body (TSv G ⟨md, W, []⟩ (F0 n m) Fo st)) : Cal G (k + 1) x md n (runF m st) :=
  ⟨f, fd, ps, fn_ok F S hp hN hb, hg, F.kp, hbd⟩
theorem fn_calD {x qual : Str} {params : Arguments} {body : List Stmt} {sc : Scope} {dv : V} {du : Value} {kws : List (Str × V)} {f : Addr} {fd : FuncData} {N ps : List Str} {k n m : Nat} {md : Bool} {st : EvS} {Fo : List SF} {dd : D} (F : FunD G.K x qual params body sc [dv] kws f fd) (hg : G.mg x = some (.ref f)) (S : FnScope N ps sc) (hp : ps.length = n + 1) (hN : N.length = n + 1 + m)
    (hbd : Binds G.K fd ps [du]) (hr : RelV dv du) (hf : flat dd = true) (hd : ∀ A H, R G A H dd dv)
    (hb : ∀ (X : Cx) (W : WX), Gs G N sc k W X → PSs X body (TSv G ⟨md, W, []⟩ (F0 (n + 1) m) Fo st)) : CalD G (k + 1) x md n dd (runF m st) :=
  ⟨f, fd, ps, dv, du, fn_ok F S hp hN hb, hg, F.kp, hbd, hr, hf, hd⟩
/-! ### the law's end -/
theorem law_sp {K : PySem.W.Frag} (hK : G.K = K) {fn : List D → Rs D} {md : Bool} {n : Nat} (hfn : ∀ ns : List Int, ns.length ≤ n → fn [.scr ns] = .ok (.bl true)) (H : Hp) (a : Addr) (ns : List Int) (hl : ns.length ≤ n) (ho : Only H) (hS : SqL K H a (ns.map V.int)) :
    spF G md 1 fn [.ref a] H (fun v _ => v = .bl true) fun _ _ _ => False := by
  subst hK
  refine ⟨rfl, [.scr ns], fun _ => True, ⟨_, _, rfl, ⟨a, rfl, ?_⟩, rfl⟩, ?_⟩
  · rcases hS with (h | ⟨o, h⟩) | h
    · rcases ho a with z | ⟨o, xs, z⟩
      · rw [z] at h; cases h
      · rw [z] at h; cases h
    · exact .inl ⟨o, h⟩
    · exact .inr h
  · rw [hfn ns hl]
    intro v H' _ r
    cases md with
    | true => obtain ⟨os, h, _⟩ := r; exact h.2
    | false => exact r
end
/-! ### the exceptions' classes -/
/-- a class that a test names: one of the text, a built-in one -/
inductive Cl where
  | own (x : Str) | ty (n : String)
  deriving DecidableEq
def Cl.v (G : Gb) : Cl → V
  | .own x => .ref (G.ga x)
  | .ty n => .ty n
def Cl.u (G : Gb) : Cl → Value
  | .own x => .ref (G.ga x)
  | .ty n => .type n
def Cl.nm : Cl → Str
  | .own x => x
  | .ty n => Str.ofString n
/-- the text's exceptions lie right under ShareError, which is a ValueError -/
def isxS (x : Str) : Cl → Bool
  | .own y => decide (y = x) || decide (y = "ShareError")
  | .ty _ => true
def xnm (xs : List Str) (e : Nat) : Str := xs.getD (min e (xs.length - 1)) ""
structure Xk (G : Gb) (xs : List Str) (cs : List Cl) : Prop where
  ex : ∀ e, ExcC G.K (G.xa e)
  kit : ∀ e c, c ∈ cs → PySem.W.kitOne G.K (.ref (G.xa e)) (c.u G) = some (isxS (xnm xs e) c)
  exm : ∀ e c, c ∈ cs → PySem.W.exmOne G.K (.ref (G.xa e)) (c.u G) = some (isxS (xnm xs e) c)
  gl : ∀ x, Cl.own x ∈ cs → G.mg x = some (.ref (G.ga x))
  ty : ∀ n, Cl.ty n ∈ cs → G.mg (Str.ofString n) = none ∧ bootBuiltins (Str.ofString n) = some (.type n)
/-- in a suite that holds an exception of the class e -/
structure Xs (G : Gb) (X : Cx) (a : Addr) (e : Nat) : Prop where
  one : CallR X (.builtin "isinstance") (rIsE G.K (G.xa e) a)
  many : CallR X (.builtin "isinstance") (fun xs H Q => ∃ (tp : Addr) (cs : List V) (us : List Value) (b : Bool), xs = [.ref a, .ref tp] ∧ H tp = some (.tup cs) ∧ Paired ClsV cs us ∧ PySem.W.kitAny G.K (.ref (G.xa e)) us = some b ∧ Q (.bl b) H)
theorem call_isET {X : Cx} {a D : Addr} {oe : Obj} {pn : List (Addr × Obj)} (C : ExcC X.K D) (hz : Zc (.ref D) none oe) (hf : ∃ vs, oe.data = .fields vs) : CallR (X.suite a ((a, oe) :: pn)) (.builtin "isinstance")
    (fun xs H Q => ∃ (tp : Addr) (cs : List V) (us : List Value) (b : Bool), xs = [.ref a, .ref tp] ∧ H tp = some (.tup cs) ∧ Paired ClsV cs us ∧ PySem.W.kitAny X.K (.ref D) us = some b ∧ Q (.bl b) H) := by
  intro pins s σ H xs us Q I r h
  obtain ⟨tp, cs, ws, b, rfl, hT, k, e, q⟩ := h
  obtain ⟨u1, u2, rfl, r1, r2⟩ := vals2 r
  cases (show u2 = Value.ref tp from r2)
  cases (show u1 = Value.ref a from r1)
  obtain ⟨hget, _⟩ := I.pin (a, oe) (List.mem_append.mpr (.inl List.mem_cons_self))
  obtain ⟨vs, hv⟩ := hf
  have J : PySem.W.InstAt s.heap a oe D none := by
    obtain ⟨oc, od, oda, osl⟩ := oe
    obtain ⟨h1, h2⟩ := hz
    dsimp only at h1 h2 hv
    subst h1 h2 hv
    exact ⟨hget, rfl, rfl, trivial⟩
  obtain ⟨_, its, rv, o, h1, h2, n, h3⟩ := (show ObjOk X.prog X.w H s.heap tp (.tup cs) from I.hok tp _ hT)
  have e3 := ClsV.all k rv
  subst e3
  obtain ⟨oc, od, dt, sl⟩ := o
  simp only at h2 h3
  subst h2 h3
  exact PySem.W.kia_tup (PySem.W.handS_kitx_exc C.hg C.hk C.hs C.hd C.ha C.hn C.ht C.hm) I.kIn J h1 e (fun z => nomatch z) fun tk => ⟨.bl b, H, I.kept (t' := tk) fun _ _ z => z, rfl, q⟩
/-! ### try -/
section
variable {G : Gb} {S : Se} {W : WX} {N : List Str} {sc : Scope} {k : Nat} {X : Cx} {F F1 F2 F3 Fh Fx : List SF} {Fo : List SF} {f f1 f2 : VF} {c : Fr} {en : En} {own own0 : Own} {σ : L2.St} {H H' H0 : Hp}
theorem Xs.of (hK : X.K = G.K) {e : Nat} (C : ExcC G.K (G.xa e)) {a : Addr} {oe : Obj} {pn : List (Addr × Obj)} (hz : Zc (.ref (G.xa e)) none oe) (hf : ∃ vs, oe.data = .fields vs) : Xs G (X.suite a ((a, oe) :: pn)) a e := by
  rw [← hK] at C
  refine ⟨?_, ?_⟩
  · rw [← hK]; exact call_isE C hz hf
  · rw [← hK]; exact call_isET C hz hf
def eIsE (xs : List Str) (e : Nat) (cs : List Cl) : EvE := fun _ => .ok (.bl (cs.any fun c => isxS (xnm xs e) c))
theorem Ok.xat (ok : Ok G c F en own σ H) {i : Nat} {a : Addr} (hf : F[i]? = some (.x a)) : σ[i]? = some (some (.ref a)) := by
  have h := ok.sl i
  unfold Slt at h
  rw [hf] at h
  simpa using h
theorem pe_cl (g : Gv G N sc X) {xs : List Str} {cs : List Cl} (K : Xk G xs cs) (y : Cl) {pos : Pos} (hy : y ∈ cs) (hg : glbB sc y.nm = true) (hn : nameB y.nm = true) : PE X (.Name y.nm pos) (tC (y.v G)) := by
  obtain ⟨h1, h2, h3⟩ := nameB_d hn
  cases y with
  | own x => exact pe_glob (glbB_gl hg g.sc) (by rw [g.mg]; exact K.gl x hy) (show RelV (.ref _) (.ref _) from rfl) h1
  | ty n => exact pe_bltn (glbB_gl hg g.sc) (by rw [g.mg]; exact (K.ty n hy).1) (K.ty n hy).2 rfl h3 h1
theorem Cl.cv (G : Gb) : ∀ y : Cl, ClsV (y.v G) (y.u G)
  | .own _ => .own _
  | .ty _ => .ty _
/-- isinstance(e, C) -/
theorem de_isE (g : Gv G N sc X) {a : Addr} {e : Nat} (hs : Xs G X a e) {xs : List Str} {cs : List Cl} (K : Xk G xs cs) (i : Nat) (y : Cl) {x : Str} {p px pt pos : Pos} (hm : G.mg "isinstance" = none) (hy : y ∈ cs := by decide) (hN : N[i]? = some x := by rfl) (hv : visB sc x = true := by rfl) (hnm : nameB x = true := by rfl) (hf : F[i]? = some (.x a) := by rfl)
    (hx : glbB sc "isinstance" = true := by rfl) (hx2 : glbB sc y.nm = true := by rfl) (hn : nameB y.nm = true := by rfl)
    (he : starEach [.Name x px, .Name y.nm pt] X.env = [(false, eval (.Name x px) X.env), (false, eval (.Name y.nm pt) X.env)] := by rfl) : PE X (.Call (.Name "isinstance" p) [.Name x px, .Name y.nm pt] [] pos) (TEv G W F F (.uq true) (eIsE xs e [y])) := by
  obtain ⟨h1, h2, _⟩ := nameB_d hnm
  refine pe_imp (pe_callB hs.one (glbB_gl hx g.sc) (by rw [g.mg]; exact hm) (by decide +kernel) (pa_cons (pe_var (i := i) (by rw [g.nN]; exact hN) (visB_vis hv g.sc) h1 h2) (pa_cons (pe_cl g K y hy hx2 hn) pa_nil) (by rw [he]; rfl)) (by decide) (by decide) (by rw [he]; rfl) rfl) ?_
  rintro σ H Q ⟨c, en, own, ok, m⟩
  have hq : RV G c own H (.uq true) (.bl ([y].any fun c => isxS (xnm xs e) c)) (.bl (isxS (xnm xs e) y)) := by
    have : ([y].any fun c => isxS (xnm xs e) c) = isxS (xnm xs e) y := by simp
    rw [this]
    exact RV.mkB _
  refine ⟨.ref a, ok.xat hf, y.v G, y.u G, _, rfl, fun u r => (y.cv G).eq r, K.kit e y hy, ?_⟩
  exact m _ H own ok (Same.refl H) sub_refl hq
theorem kit_any {xs : List Str} {cs : List Cl} (K : Xk G xs cs) (e : Nat) : ∀ ys : List Cl, (∀ y ∈ ys, y ∈ cs) → PySem.W.kitAny G.K (.ref (G.xa e)) (ys.map (Cl.u G)) = some (ys.any fun c => isxS (xnm xs e) c)
  | [], _ => rfl
  | y :: ys, h => by
    show (match PySem.W.kitOne G.K (.ref (G.xa e)) (y.u G) with | some true => some true | some false => PySem.W.kitAny G.K (.ref (G.xa e)) (ys.map (Cl.u G)) | none => none) = _
    rw [K.kit e y (h y List.mem_cons_self), kit_any K e ys fun z hz => h z (List.mem_cons_of_mem _ hz), List.any_cons]
    cases isxS (xnm xs e) y <;> rfl
/-- the names of classes, in a row -/
def clNs : List Cl → List Pos → List Expr
  | y :: ys, p :: ps => .Name y.nm p :: clNs ys ps
  | _, _ => []
def clB (sc : Scope) (cs : List Cl) : List Cl → Bool
  | [] => true
  | y :: ys => decide (y ∈ cs) && glbB sc y.nm && nameB y.nm && clB sc cs ys
theorem clB_in {cs : List Cl} : ∀ {ys : List Cl}, clB sc cs ys = true → ∀ y ∈ ys, y ∈ cs
  | [], _, y, h => by cases h
  | z :: zs, hy, y, h => by
    simp only [clB, Bool.and_eq_true, decide_eq_true_eq] at hy
    rcases List.mem_cons.mp h with e | h
    · rw [e]; exact hy.1.1.1
    · exact clB_in hy.2 y h
theorem pa_cls (g : Gv G N sc X) {xs : List Str} {cs : List Cl} (K : Xk G xs cs) : ∀ (ys : List Cl) (ps : List Pos), clB sc cs ys = true → ps.length = ys.length → PA X (clNs ys ps) (fun _ H Q => Q (ys.map (Cl.v G)) H)
  | [], ps, _, _ => by cases ps <;> exact pa_nil
  | y :: ys, [], _, h => by cases h
  | y :: ys, p :: ps, hc, hl => by
    simp only [clB, Bool.and_eq_true, decide_eq_true_eq] at hc
    refine pa_imp (pa_cons (pe_cl g K y hc.1.1.1 hc.1.1.2 hc.1.2) (pa_cls g K ys ps hc.2 (Nat.succ.inj hl)) rfl) ?_
    rintro σ H Q q
    exact q
theorem paired_cls (G : Gb) : ∀ ys : List Cl, Paired ClsV (ys.map (Cl.v G)) (ys.map (Cl.u G))
  | [] => .nil
  | y :: ys => .cons (y.cv G) (paired_cls G ys)
theorem de_isET (g : Gv G N sc X) {a : Addr} {e : Nat} (hs : Xs G X a e) {xs : List Str} {cs : List Cl} (K : Xk G xs cs) (i : Nat) (ys : List Cl) (ps : List Pos) {x : Str} {p px pt pos : Pos} {n : Nat} (hm : G.mg "isinstance" = none) (hy : clB sc cs ys = true := by rfl) (hN : N[i]? = some x := by rfl) (hv : visB sc x = true := by rfl) (hnm : nameB x = true := by rfl) (hf : F[i]? = some (.x a) := by rfl)
    (hx : glbB sc "isinstance" = true := by rfl) (hl : ps.length = ys.length := by rfl) (hz : ys.length ≤ sizeLine := by decide)
    (he : starEach [.Name x px, .Tuple (clNs ys ps) n pt] X.env = [(false, eval (.Name x px) X.env), (false, eval (.Tuple (clNs ys ps) n pt) X.env)] := by rfl) : PE X (.Call (.Name "isinstance" p) [.Name x px, .Tuple (clNs ys ps) n pt] [] pos) (TEv G W F F (.uq true) (eIsE xs e ys)) := by
  obtain ⟨h1, h2, _⟩ := nameB_d hnm
  refine pe_imp (pe_callB hs.many (glbB_gl hx g.sc) (by rw [g.mg]; exact hm) (by decide +kernel) (pa_cons (pe_var (i := i) (by rw [g.nN]; exact hN) (visB_vis hv g.sc) h1 h2) (pa_cons (pe_tup (pa_cls g K ys ps hy hl)) pa_nil) (by rw [he]; rfl)) (by decide) (by decide) (by rw [he]; rfl) rfl) ?_
  rintro σ H Q ⟨c, en, own, ok, m⟩
  have hin := clB_in hy
  refine ⟨.ref a, ok.xat hf, by simpa using hz, fun p hp => ⟨p, _, _, _, rfl, upd_same, paired_cls G ys, kit_any K e ys hin, ?_⟩⟩
  exact m _ _ own (ok.grow (same_new hp)) (same_new hp) sub_refl (RV.mkB _)
/-- a try's body that touches no name -/
def TXv (G : Gb) (W : WX) (F : List SF) (bx : En → Rs Unit) : TS := fun D σ H => ∃ (c : Fr) (en : En) (own : Own), Ok G c F en own σ H ∧ (match bx en with
  | .ok _ => ∀ H', Same H H' → D.nx σ H'
  | .error (.raise e) => ∀ H', c.Sm H' → W (.ref (G.xa e)) none σ H'
  | .error .stuck => False)
def xEx (ev : EvE) : En → Rs Unit := fun en => bnd (ev en) fun _ => .ok ()
def xIf (t : En → Rs Bool) (a b : En → Rs Unit) : En → Rs Unit := fun en => bnd (t en) fun c => if c = true then a en else b en
theorem dx_ex {e : Expr} {pos : Pos} {ev : EvE} (he : PE X e (TEv G W F F1 f ev)) (hs : swapsWith e none pos.line X.env = pure false := by rfl) : PSs X [.Expr e pos] (TXv G W F (xEx ev)) := by
  refine pss_imp (pss_one (ps_expr he hs)) ?_
  rintro D σ H ⟨c, en, own, ok, m⟩
  refine ⟨c, en, own, ok, ?_⟩
  unfold xEx at m
  cases q : ev en with
  | ok d =>
    rw [q] at m
    exact fun v H' own' _ s _ _ => m H' s
  | error er =>
    rw [q] at m
    cases er with
    | raise e => exact m
    | stuck => exact m
theorem dx_if {c : Expr} {a b : List Stmt} {pos : Pos} {t : En → Rs Bool} {ea eb : En → Rs Unit} (hc : PT X c (TTv G W F F t)) (ha : PSs X a (TXv G W F ea)) (hb : PSs X b (TXv G W F eb)) : PSs X [.If c a b pos] (TXv G W F (xIf t ea eb)) := by
  refine pss_imp (pss_one (ps_if hc ha hb)) ?_
  rintro D σ H ⟨c, en, own, ok, m⟩
  refine ⟨c, en, own, ok, ?_⟩
  unfold xIf at m
  cases q : t en with
  | ok d =>
    rw [q] at m
    have m2 : (match (if d = true then ea en else eb en) with
      | .ok _ => ∀ H', Same H H' → D.nx σ H'
      | .error (.raise e) => ∀ H', c.Sm H' → W (.ref (G.xa e)) none σ H'
      | .error .stuck => False) := m
    intro H1 own1 ok1 s1 _
    cases d with
    | true =>
      rw [if_pos rfl] at m2
      refine iteT ⟨c, en, own1, ok1, ?_⟩
      cases q2 : ea en with
      | ok _ => rw [q2] at m2; exact fun H' s => m2 H' (s1.trans s)
      | error er => rw [q2] at m2; cases er <;> exact m2
    | false =>
      rw [if_neg (by decide)] at m2
      refine iteF ⟨c, en, own1, ok1, ?_⟩
      cases q2 : eb en with
      | ok _ => rw [q2] at m2; exact fun H' s => m2 H' (s1.trans s)
      | error er => rw [q2] at m2; cases er <;> exact m2
  | error er =>
    rw [q] at m
    cases er with
    | raise e => exact m
    | stuck => exact m
def Fsh (F : List SF) : List SF := F.map fun f => if f.rd = true then .s false else .n
theorem try_ok (ok : Ok G c F en own σ H) : Ok G (Fr.new H fun _ => True) (Fsh F) en Own.new σ H := by
  have now : ∀ a, ¬ ow Own.new a := fun a h => by
    rcases h with ⟨i, h⟩ | h
    · cases h
    · exact h
  have all : ∀ a, Av (Fr.new H fun _ => True) (ow Own.new) false a := fun a => ⟨now a, fun z => (nomatch z), .inr trivial⟩
  refine { lF := by rw [← ok.lF]; simp [Fsh], lE := ok.lE, same := fun b o _ e => e, tr := fun a h => False.elim h, dj := fun i j a h _ => (nomatch h), dt := fun i a h => (nomatch h), nt := fun a h => False.elim h, nw := fun i a h => (nomatch h), sl := fun i => ?_, lk := fun a o h => (nomatch h) }
  have h := ok.sl i
  unfold Slt at h ⊢
  unfold Fsh
  rw [List.getElem?_map]
  cases hF : F[i]? with
  | none => simp
  | some f =>
    rw [hF] at h
    cases f with
    | n => simp [SF.rd]
    | x a => simp [SF.rd]
    | s dp =>
      simp only [Option.map_some, SF.rd, if_pos]
      cases he : en[i]? with
      | none => simp
      | some od =>
        cases od with
        | none => simp
        | some d => rw [he] at h; obtain ⟨x, h1, h2⟩ := h; exact ⟨x, h1, R.an h2 fun a _ => all a⟩
    | o dp =>
      simp only [Option.map_some, SF.rd, if_pos]
      cases he : en[i]? with
      | none => simp
      | some od =>
        cases od with
        | none => simp
        | some d => rw [he] at h; obtain ⟨x, h1, h2⟩ := h; exact ⟨x, h1, RO.r h2 (fun a _ => all a) fun a _ => all a⟩
    | z =>
      simp only [Option.map_some, SF.rd, if_pos]
      cases he : en[i]? with
      | none => simp
      | some od =>
        cases od with
        | none => simp
        | some d => rw [he] at h; obtain ⟨x, h1, h2, _⟩ := h; exact ⟨x, h1, RO.r h2 (fun a _ => all a) fun a _ => all a⟩
theorem Ok.chg (ok : Ok G c F en own σ H) {i : Nat} {fl : SF} {v : Option V} (hz : F[i]? ≠ some .z) (hfl : fl = .n ∨ ∃ a, fl = .x a ∧ v = some (.ref a)) : Ok G c (F.set i fl) (en.set i none) own (σ.set i v) H := by
  refine { lF := by simpa using ok.lF, lE := by simpa using ok.lE, same := ok.same, tr := ok.tr, dj := ok.dj, dt := ok.dt, nt := ok.nt, nw := fun j a h => ?_, sl := fun j => ?_, lk := ok.lk }
  · obtain ⟨q1, q2⟩ := ok.nw j a h
    refine ⟨q1, q2.imp id fun ⟨q3, q4⟩ => ⟨?_, q4⟩⟩
    have ne : i ≠ j := fun e => hz (by rw [e]; exact q3)
    rw [List.getElem?_set_ne ne]
    exact q3
  · by_cases e : i = j
    · subst e
      unfold Slt
      by_cases hi : i < F.length
      · rw [List.getElem?_set_self hi]
        rcases hfl with rfl | ⟨a, rfl, rfl⟩
        · simp
        · exact List.getElem?_set_self (by rw [← ok.lF]; exact hi)
      · rw [List.getElem?_eq_none (by simpa using hi)]
        simp
    · have h := ok.sl j
      unfold Slt at h ⊢
      rw [List.getElem?_set_ne e, List.getElem?_set_ne e, List.getElem?_set_ne e]
      exact h
/-- the body, or the suite by the exception's class -/
def sTry (i : Nat) (isC : Nat → Bool) (bx : En → Rs Unit) (hd : Nat → EvS) : EvS := fun en => match bx en with
  | .ok _ => .ok (.nx en)
  | .error (.raise e) => if isC e = true then (match hd e (en.set i none) with
    | .ok (.nx en') => .ok (.nx (en'.set i none))
    | .ok (.rt d) => .ok (.rt d)
    | _ => .error .stuck) else .error (.raise e)
  | .error .stuck => .error .stuck
theorem pss_ex {X : Cx} {body : List Stmt} {cls : Value} {d : Option Addr} {t : Nat → TS} {u : Nat → Value} (h : ∀ e, cls = u e → d = none → PSs X body (t e)) : PSs X body (fun D σ H => ∃ e, cls = u e ∧ d = none ∧ t e D σ H) := by
  refine ⟨fun pins s σ H D I q => ?_⟩
  obtain ⟨e, h1, h2, q⟩ := q
  exact (h e h1 h2).run pins s σ H D I q
theorem Gs.tr (g : Gs G N sc k W X) {W' : WX} {pn : List (Addr × Obj)} {xe : Value → Shared → Prop} (tk : Takes (X.tr pn xe) W') (po : PassesOwn (model X.prog X.w) X.A X.env xe) : Gs G N sc k W' (X.tr pn xe) :=
  ⟨{ prog := g.g.prog, w := g.g.w, K := g.g.K, mg := g.g.mg, base := g.g.base, nN := g.g.nN, nd := g.g.nd, sc := g.g.sc, un := g.g.un, calm := g.g.calm, room := g.g.room, tk := tk, po := po }, g.fn, g.kd, g.stk, g.frm⟩
theorem Gs.su (g : Gs G N sc k W X) {a : Addr} {pn : List (Addr × Obj)} : Gv G N sc (X.suite a pn) :=
  { prog := g.g.prog, w := g.g.w, K := g.g.K, mg := g.g.mg, base := g.g.base, nN := g.g.nN, nd := g.g.nd, sc := g.g.sc, un := g.g.un }
theorem ds_try (g : Gs G N sc k S.W X) {xs : List Str} {cs : List Cl} (K : Xk G xs cs) (i : Nat) (y : Cl) {n : Str} {np pos pos' : Pos} {body suite : List Stmt} {b₀ : Stmt} {bx : En → Rs Unit} {hd : Nat → EvS}
    (hb : ∀ (X' : Cx) (W' : WX), Gs G N sc k W' X' → PSs X' body (TXv G W' (Fsh F) bx))
    (hsu : ∀ (X' : Cx) (a : Addr) (e : Nat), Gv G N sc X' → (∀ x, X'.fn x = true) → Xs G X' a e → PSs X' (b₀ :: suite) (TSv G ⟨S.md, fun _ _ _ _ => False, []⟩ (F.set i (.x a)) (Fo.set i (.x a)) (hd e)))
    (hF : F[i]? = some .n := by rfl) (hFo : Fo[i]? = some .n := by rfl) (hw : wkL F Fo = true := by rfl) (hN : N[i]? = some n := by rfl) (hln : plainLocB sc n = true := by rfl) (hy : y ∈ cs := by decide) (hx2 : glbB sc y.nm = true := by rfl) (hn : nameB y.nm = true := by rfl) :
    PS X (.Try body [.ExceptHandler (some (.Name y.nm np)) (some n) (b₀ :: suite) pos'] [] [] pos) (TSv G S F Fo (sTry i (fun e => isxS (xnm xs e) y) bx hd)) := by
  obtain ⟨n1, n2, n3⟩ := nameB_d hn
  have nmz : Names X y.nm (y.u G) := by
    refine ⟨glbB_gl hx2 g.g.sc, n1, ?_⟩
    cases y with
    | own x => exact .inl (by rw [g.g.mg]; exact K.gl x hy)
    | ty m => exact .inr ⟨by rw [g.g.mg]; exact (K.ty m hy).1, (K.ty m hy).2, n3⟩
  refine ps_imp (ps_try_as (i := i) (c := y.u G) (tb := fun W => TXv G W (Fsh F) bx) (ts := fun a cls d D σ H => ∃ e, cls = .ref (G.xa e) ∧ d = none ∧ TSv G ⟨S.md, fun _ _ _ _ => False, []⟩ (F.set i (.x a)) (Fo.set i (.x a)) (hd e) D σ H) (Wout := S.W) g.stk g.frm (by rw [g.g.nN]; exact g.g.nd) (by rw [g.g.nN]; exact hN) (plainLocB_loc hln g.g.sc) nmz g.g.tk
    (fun W pn xe tk po => hb _ _ (g.tr tk po)) (fun a oe cls d pn hz hf => pss_ex fun e h1 h2 => ?_)) ?_
  · subst h1 h2
    exact hsu _ a e g.su g.fn (Xs.of g.g.K (K.ex e) hz hf)
  · rintro D σ H ⟨c, en, own, ok, m⟩
    refine ⟨Fr.new H fun _ => True, en, Own.new, try_ok ok, ?_⟩
    unfold sTry at m
    cases q : bx en with
    | ok u =>
      rw [q] at m
      intro H' s
      obtain ⟨own', ok', _⟩ := (ok.grow s).weak hw
      exact m σ H' own' ok'
    | error er =>
      rw [q] at m
      cases er with
      | stuck => exact m
      | raise e =>
        intro H' sm
        have s : Same H H' := fun b o z => sm b o id z
        refine ⟨isxS (xnm xs e) y, by rw [g.g.K]; exact K.exm e y hy, fun hb a na => ⟨e, rfl, rfl, c, en.set i none, own, ?_, ?_⟩, fun hb => ?_⟩
        · exact (ok.grow s).chg (by rw [hF]; simp) (.inr ⟨a, rfl, rfl⟩)
        · have m2 : MtS G S.W c (match hd e (en.set i none) with
            | .ok (.nx en') => .ok (.nx (en'.set i none))
            | .ok (.rt d) => .ok (.rt d)
            | _ => .error .stuck) (Aft G S c Fo D) := by
            have m3 := m
            dsimp only at m3
            rw [if_pos hb] at m3
            exact m3
          cases q2 : hd e (en.set i none) with
          | error er => rw [q2] at m2; exact m2.elim
          | ok fl =>
            rw [q2] at m2
            cases fl with
            | ct en' => exact m2.elim
            | rt d => exact m2
            | nx en' =>
              intro σ' H'' own' ok'
              have hFi : i < Fo.length := (List.getElem?_eq_some_iff.mp hFo).1
              have := ok'.chg (i := i) (fl := .n) (v := none) (by rw [List.getElem?_set_self hFi]; simp) (.inl rfl)
              rw [List.set_set, show Fo.set i .n = Fo by
                apply List.ext_getElem?
                intro j
                by_cases e : i = j
                · subst e; rw [List.getElem?_set_self hFi, hFo]
                · rw [List.getElem?_set_ne e]] at this
              exact m2 _ H'' own' this
        · have m3 := m
          dsimp only at m3
          rw [if_neg (by rw [hb]; decide)] at m3
          exact m3 σ H' fun b o nb z => s _ _ (ok.same b o nb z)
end
end Pi
namespace Pi
open PySem PySem.Spec PyProof.Rows L2 He
/-! ### the Hook: facts, defs, and what else is looked at -/
def hookP (n : Nat) (fa : List Fa) (fn : List DefD) (ex : PySem.W.Frag → Bool) : PySem.W.Hook where
  α := AlD × Bool
  obs := fun s => (obsDG n fa fn s.heap.get?, ex (frG s.heap.get? (asD s.heap.get? n)))
  val := fun _ => (valD fn, true)
  says := fun _ h => ∃ K : PySem.W.Frag, K.In h ∧ SaysD fa fn K ∧ ex K = true
  of := fun _ _ e => ⟨_, frG_in, congrArg (fun z : AlD × Bool => z.1) e, congrArg (fun z : AlD × Bool => z.2) e⟩
  keeps := fun _ _ _ ⟨K, hK, c⟩ k => ⟨K, PySem.W.Frag.In.keeps hK k, c⟩
def obP (n : Nat) (fa : List Fa) (fn : List DefD) (ex : PySem.W.Frag → Bool) (g : Addr → Option Obj) : AlD × Bool := (obsDG n fa fn g, ex (frG g (asD g n)))
theorem obP_eq {n : Nat} {fa : List Fa} {fn : List DefD} {ex : PySem.W.Frag → Bool} {g : Addr → Option Obj} {s : Shared} (h : ∀ a, g a = s.heap.get? a) : obP n fa fn ex g = (hookP n fa fn ex).obs s := by
  have e : g = s.heap.get? := funext h
  rw [e] <;> rfl
/-- a law: F gives the written part, the function object, the promise over every base -/
theorem walk_ofW {l : PySem.W.OpenLaw} {n k : Nat} {q : Program} {loose : List Str} {XP : (Str → Option Value) → Heap → Prop} {YP : World → Heap → Prop} {d : DefRec} {CX : World → CXT} {x : Str}
    (hn : l.most = some n) (hn2 : n ≤ sizeLine) (hdf : d.params.defaults = []) (hr : Room k callerA)
    (F : ∀ (w : World) (mg : Str → Option Value) (fa : Addr) (h : Heap), YP w h → h.Ns mainGlobals mg → mg d.name = some (.ref fa) →
      ∃ (K : PySem.W.Frag) (fd : FuncData) (sp : Sp), K.In h ∧ (∀ (s : Shared) (u : Value), BindsTo s fd ⟨[u], []⟩ [(x, u)]) ∧
        (∀ (H : Hp) (a : Addr) (ns : List Int), ns.length ≤ n → Only H → SqL K H a (ns.map V.int) → sp [.ref a] H (fun v _ => v = .bl true) fun _ _ _ => False) ∧
        ∀ base : Heap, K.In base → base.Ns mainGlobals mg → FnOk l.prog w K mg base (CX w) k fa fd [x] sp)
    (hCX : ∀ (w : World) (H : Hp) (s : Shared) (e : Value) (s' : Shared), CX w [] H s (fun _ _ _ => False) e s' → False) :
    PySem.W.WalkO q loose XP YP l.row.toRowW d [] (fun f vs => PySem.call f vs) := by
  refine Att.attach_call hn hdf fun w s₀ s₁ mg mb fa o pm cd doc a vs ns G Y ho hd hcd hmg hobj hints hlen hg => ?_
  obtain ⟨K, fd, sp, KX, hb, hsp, hF⟩ := F w mg fa _ Y G.T.g hmg
  exact law_call KX G.T.g G.T.b G.T.builtins G.T.nolimit hg hobj hints (Nat.le_trans hlen hn2) hr hF hb (fun H hO hS => hsp H a ns hlen hO hS) fun H e s' => hCX w H s₁ e s'
theorem noCX {P : Program} {w : World} {H : Hp} {s : Shared} {e : Value} {s' : Shared} (h : L2.CX P w [] H s (fun _ _ _ => False) e s') : False := by
  obtain ⟨a, B, H', cls, d, _, _, _, _, _, _, _, z⟩ := h
  exact z
theorem says_facts {fa : List Fa} {fn : List DefD} {K : PySem.W.Frag} (c : SaysD fa fn K) {f : Fa} (h : f ∈ fa) : f.ok K = true := by
  obtain ⟨i, hi, e⟩ := List.mem_iff_getElem.mp h
  exact c.fact i (f := f) (by rw [List.getElem?_eq_getElem hi, e])
/-! ### what the written part says of the exceptions -/
def Cl.uK (K : PySem.W.Frag) : Cl → Value
  | .own x => .ref (ga K x)
  | .ty n => .type n
def excCB (K : PySem.W.Frag) (D : Addr) : Bool :=
  decide (PySem.W.findIn K (.ref D) "__getattribute__" = some (some (.builtin "BaseException.__getattribute__"))) && (decide (PySem.W.findIn K (.ref D) "__getattr__" = some none) && (decide (PySem.W.subIn K (.ref D) (.type "BaseException") = some true) && (PySem.W.hasDictIn K D &&
    (decide (PySem.W.findIn K (.ref D) "__class__" = some (some (.builtin "object.__class__"))) && (decide (PySem.W.specialIn K (.builtin "object.__class__") "__get__" = some (some (.builtin "getset_descriptor.__get__"))) && (decide (PySem.W.takesIn K (.builtin "object.__class__") = some true) && decide (PySem.W.mroIn K D (.type "object") = some true)))))))
theorem excCB_ok {K : PySem.W.Frag} {D : Addr} (h : excCB K D = true) : ExcC K D := by
  simp only [excCB, Bool.and_eq_true, decide_eq_true_eq] at h
  obtain ⟨h1, h2, h3, h4, h5, h6, h7, h8⟩ := h
  exact ⟨h1, h2, h3, h4, h5, h6, h7, h8⟩
def clB1 (K : PySem.W.Frag) (xs : List Str) (e : Nat) (c : Cl) : Bool :=
  decide (PySem.W.kitOne K (.ref (ga K (xnm xs e))) (c.uK K) = some (isxS (xnm xs e) c)) && decide (PySem.W.exmOne K (.ref (ga K (xnm xs e))) (c.uK K) = some (isxS (xnm xs e) c))
def xkB (xs : List Str) (cs : List Cl) (K : PySem.W.Frag) : Bool :=
  (List.range (xs.length)).all fun e => excCB K (ga K (xnm xs e)) && cs.all fun c => clB1 K xs e c
def clFa : Cl → Fa
  | .own x => .glo x
  | .ty n => .free (Str.ofString n)
theorem xnm_min {xs : List Str} (h : xs ≠ []) (e : Nat) : ∃ e', e' < xs.length ∧ xnm xs e = xnm xs e' := by
  have hp : 0 < xs.length := List.length_pos_iff.mpr h
  refine ⟨min e (xs.length - 1), by omega, ?_⟩
  unfold xnm
  have : min (min e (xs.length - 1)) (xs.length - 1) = min e (xs.length - 1) := by omega
  rw [this]
/-- the text's facts, over any base -/
def gOf (P : Program) (w : World) (K : PySem.W.Frag) (mg : Str → Option Value) (base : Heap) (cn : List (Str × List Str)) (xs : List Str) : Gb where
  P := P
  w := w
  K := K
  mg := mg
  base := base
  ca := fun i => ga K ((cn.getD i ("", [])).1)
  cf := fun i => (cn.getD i ("", [])).2
  xa := fun e => ga K (xnm xs e)
  ga := ga K
section
variable {P : Program} {w : World} {K : PySem.W.Frag} {mg : Str → Option Value} {base h : Heap} {cn : List (Str × List Str)} {xs : List Str} {cs : List Cl}
theorem xk_of (X : K.In h) (Gn : h.Ns mainGlobals mg) (hx : xs ≠ []) (hk : xkB xs cs K = true) (hf : ∀ c ∈ cs, (clFa c).ok K = true) (hb : ∀ n, Cl.ty n ∈ cs → bootBuiltins (Str.ofString n) = some (.type n)) : Xk (gOf P w K mg base cn xs) xs cs := by
  have key : ∀ e, excCB K (ga K (xnm xs e)) = true ∧ ∀ c ∈ cs, clB1 K xs e c = true := fun e => by
    obtain ⟨e', he, q⟩ := xnm_min hx e
    have := List.all_eq_true.mp hk e' (by simpa using he)
    simp only [Bool.and_eq_true] at this
    refine ⟨by rw [q]; exact this.1, fun c hc => ?_⟩
    have z := List.all_eq_true.mp this.2 c hc
    unfold clB1 at z ⊢
    rw [q]
    exact z
  have u : ∀ c : Cl, c.u (gOf P w K mg base cn xs) = c.uK K := fun c => by cases c <;> rfl
  refine ⟨fun e => excCB_ok (key e).1, fun e c hc => ?_, fun e c hc => ?_, fun x hc => ?_, fun n hc => ⟨?_, hb n hc⟩⟩
  · have z := (key e).2 c hc
    simp only [clB1, Bool.and_eq_true, decide_eq_true_eq] at z
    rw [u]; exact z.1
  · have z := (key e).2 c hc
    simp only [clB1, Bool.and_eq_true, decide_eq_true_eq] at z
    rw [u]; exact z.2
  · exact glo_ok X Gn (hf _ hc)
  · exact free_ok X Gn (hf _ hc)
theorem glo_int (X : K.In h) (Gn : h.Ns mainGlobals mg) {x : Str} {i : Int} (c : (Fa.int x i).ok K = true) : Glo (gOf P w K mg base cn xs) x (.int i) := by
  obtain ⟨t, e⟩ := int_ok X Gn c
  exact ⟨.int i, .int i t, e, ⟨t, rfl⟩, fun _ _ => rfl⟩
theorem glo_str (X : K.In h) (Gn : h.Ns mainGlobals mg) {x z : Str} (c : (Fa.str x z).ok K = true) : Glo (gOf P w K mg base cn xs) x (.str z) := by
  obtain ⟨t, e⟩ := str_ok X Gn c
  exact ⟨.str z, .str z t, e, ⟨t, rfl⟩, fun _ _ => rfl⟩
theorem xcl_of (X : K.In h) (Gn : h.Ns mainGlobals mg) (e : Nat) {x : Str} (hx : xnm xs e = x) (h1 : (Fa.glo x).ok K = true) (h2 : (Fa.exc x).ok K = true) : Xcl (gOf P w K mg base cn xs) x e := by
  subst hx
  obtain ⟨q1, q2, q3, q4⟩ := exc_ok h2
  exact ⟨glo_ok X Gn h1, q1, q2, q3, q4⟩
end
/-- the law's promise: true, whatever the whole numbers -/
def spLaw (K : PySem.W.Frag) (n : Nat) : Sp := fun vs H Q _ => ∃ (a : Addr) (ns : List Int), vs = [.ref a] ∧ ns.length ≤ n ∧ SqF K H a (ns.map V.int) ∧ ∀ H', Q (.bl true) H'
theorem law_ok {G : Gb} {P : Program} {w : World} {K : PySem.W.Frag} {mg : Str → Option Value} {base : Heap} {CX : CXT} {k n : Nat} {f : Addr} {fd : FuncData} {ps : List Str} {md : Bool} {fn : List D → Rs D} (h : FnOk P w K mg base CX k f fd ps (spF G md 1 fn)) (hK : G.K = K) (hp : ps.length = 1)
    (hfn : ∀ ns : List Int, ns.length ≤ n → fn [.scr ns] = .ok (.bl true)) : FnOk P w K mg base CX k f fd ps (spLaw K n) := by
  have m : ∀ vs H Q E, spLaw K n vs H Q E → spF G md 1 fn vs H Q E := by
    rintro vs H Q E ⟨a, ns, rfl, hl, hS, q⟩
    subst hK
    refine ⟨rfl, [.scr ns], fun _ => True, ⟨_, _, rfl, ⟨a, rfl, hS⟩, rfl⟩, ?_⟩
    rw [hfn ns hl]
    intro v H' _ r
    have : v = .bl true := by
      cases md with
      | true => obtain ⟨os, h, _⟩ := r; exact h.2
      | false => exact r
    rw [this]
    exact q H'
  obtain ⟨h1, h2⟩ := h
  exact ⟨fun vs H Q E hs => h1 vs H Q E (m _ _ _ _ hs), fun A outer s H args us vs Q E hr e0 hb r hsp => h2 A outer s H args us vs Q E hr e0 hb r (m _ _ _ _ hsp)⟩
theorem law_end {K : PySem.W.Frag} {n : Nat} (H : Hp) (a : Addr) (ns : List Int) (hl : ns.length ≤ n) (ho : Only H) (hS : SqL K H a (ns.map V.int)) : spLaw K n [.ref a] H (fun v _ => v = .bl true) fun _ _ _ => False := by
  refine ⟨a, ns, rfl, hl, ?_, fun _ => rfl⟩
  rcases hS with (h | ⟨o, h⟩) | h
  · rcases ho a with z | ⟨o, xs, z⟩
    · rw [z] at h; cases h
    · rw [z] at h; cases h
  · exact .inl ⟨o, h⟩
  · exact .inr h
end Pi
namespace Pi
open PySem PySem.Spec PyProof.Rows L2
section
variable {G : Gb} {S : Se} {W : WX} {N : List Str} {sc : Scope} {k : Nat} {X : Cx} {F F1 F2 F3 Fh Fx : List SF} {Fo : List SF} {f f1 f2 : VF} {c : Fr} {en : En} {own own0 : Own} {σ : L2.St} {H H' H0 : Hp}
theorem opr_eqG (g : Gv G N sc X) : OpR X (compareOp .Eq) (rEqP G.K false) := by rw [← g.K]; exact opr_eq g.un
theorem opr_neG (g : Gv G N sc X) : OpR X (compareOp .NotEq) (rEqP G.K true) := by rw [← g.K]; exact opr_ne g.un
theorem opr_inG (g : Gv G N sc X) : OpR X (compareOp .In) (rInP G.K false) := by rw [← g.K]; exact opr_in g.un
theorem opr_notinG (g : Gv G N sc X) : OpR X (compareOp .NotIn) (rInP G.K true) := by rw [← g.K]; exact opr_notin g.un
theorem de_add {a b : Expr} {pos : Pos} {ea eb : EvE} (ha : PE X a (TEv G W F F1 f1 ea)) (hb : PE X b (TEv G W F1 F2 f2 eb)) : PE X (.BinOp a .Add b pos) (TEv G W F F2 (.uq (f1.dp && f2.dp)) (eB2 oAdd ea eb)) := de_op opr_add ops_add ha hb
theorem de_sub {a b : Expr} {pos : Pos} {ea eb : EvE} (ha : PE X a (TEv G W F F1 f1 ea)) (hb : PE X b (TEv G W F1 F2 f2 eb)) : PE X (.BinOp a .Sub b pos) (TEv G W F F2 (.uq true) (eB2 oSub ea eb)) := de_op opr_sub ops_sub ha hb
theorem de_mul {a b : Expr} {pos : Pos} {ea eb : EvE} (ha : PE X a (TEv G W F F1 f1 ea)) (hb : PE X b (TEv G W F1 F2 f2 eb)) : PE X (.BinOp a .Mult b pos) (TEv G W F F2 (.uq (f1.dp && f2.dp)) (eB2 oMul ea eb)) := de_op opr_mul ops_mul ha hb
theorem de_div {a b : Expr} {pos : Pos} {ea eb : EvE} (ha : PE X a (TEv G W F F1 f1 ea)) (hb : PE X b (TEv G W F1 F2 f2 eb)) : PE X (.BinOp a .FloorDiv b pos) (TEv G W F F2 (.uq true) (eB2 oDiv ea eb)) := de_op opr_div ops_div ha hb
theorem de_mod {a b : Expr} {pos : Pos} {ea eb : EvE} (ha : PE X a (TEv G W F F1 f1 ea)) (hb : PE X b (TEv G W F1 F2 f2 eb)) : PE X (.BinOp a .Mod b pos) (TEv G W F F2 (.uq true) (eB2 oMod ea eb)) := de_op op_modN ops_mod ha hb
theorem de_pow {a b : Expr} {pos : Pos} {ea eb : EvE} (ha : PE X a (TEv G W F F1 f1 ea)) (hb : PE X b (TEv G W F1 F2 f2 eb)) : PE X (.BinOp a .Pow b pos) (TEv G W F F2 (.uq true) (eB2 oPow ea eb)) := de_op op_pow ops_pow ha hb
theorem ds_pre {st : Stmt} {s : EvS} (h : PS X st (TSv G S F1 Fo s)) (w : wkL F F1 = true := by rfl) : PS X st (TSv G S F Fo s) := by
  refine ps_imp h ?_
  rintro D σ H ⟨c, en, own, ok, m⟩
  obtain ⟨own2, ok2, _⟩ := ok.weak w
  exact ⟨c, en, own2, ok2, m⟩
theorem tboot_int : bootBuiltins "int" = some (.type Ty.int.nm) := by decide +kernel
theorem tboot_bool : bootBuiltins "bool" = some (.type Ty.bool.nm) := by decide +kernel
theorem tboot_str : bootBuiltins "str" = some (.type Ty.str.nm) := by decide +kernel
theorem tboot_list : bootBuiltins "list" = some (.type Ty.list.nm) := by decide +kernel
theorem tboot_tuple : bootBuiltins "tuple" = some (.type Ty.tuple.nm) := by decide +kernel
theorem tboot_dict : bootBuiltins "dict" = some (.type Ty.dict.nm) := by decide +kernel
end
end Pi
namespace Pi
open PySem PySem.Spec PyProof.Rows L2
/-! ### comprehensions -/
def wipF : List Nat → List SF → List SF
  | [], F => F
  | v :: vs, F => (wipF vs F).set v .n
def wipE : List Nat → En → En
  | [], en => en
  | v :: vs, en => (wipE vs en).set v none
/-- in a block: what is owned is read only -/
def SF.blk : SF → SF
  | .s _ => .s false
  | .o _ | .z => .z
  | _ => .n
def blkF (vs : List Nat) (F : List SF) : List SF := wipF vs (F.map SF.blk)
theorem wipF_len (vs : List Nat) (F : List SF) : (wipF vs F).length = F.length := by
  induction vs with
  | nil => rfl
  | cons v vs ih => simp [wipF, ih]
theorem wipE_len (vs : List Nat) (en : En) : (wipE vs en).length = en.length := by
  induction vs with
  | nil => rfl
  | cons v vs ih => simp [wipE, ih]
theorem wipF_out {vs : List Nat} {F : List SF} {j : Nat} (h : j ∉ vs) : (wipF vs F)[j]? = F[j]? := by
  induction vs with
  | nil => rfl
  | cons v vs ih =>
    simp only [List.mem_cons, not_or] at h
    rw [wipF, List.getElem?_set_ne (fun e => h.1 e.symm), ih h.2]
theorem wipF_in {vs : List Nat} {F : List SF} {j : Nat} (h : j ∈ vs) : (wipF vs F)[j]? = some .n ∨ (wipF vs F)[j]? = none := by
  by_cases hj : j < F.length
  · refine .inl ?_
    induction vs with
    | nil => cases h
    | cons v vs ih =>
      rw [wipF]
      by_cases e : v = j
      · subst e; exact List.getElem?_set_self (by rw [wipF_len]; exact hj)
      · rw [List.getElem?_set_ne e]
        exact ih ((List.mem_cons.mp h).resolve_left fun z => e z.symm)
  · exact .inr (List.getElem?_eq_none (by rw [wipF_len]; omega))
theorem wipE_out {vs : List Nat} {en : En} {j : Nat} (h : j ∉ vs) : (wipE vs en)[j]? = en[j]? := by
  induction vs with
  | nil => rfl
  | cons v vs ih =>
    simp only [List.mem_cons, not_or] at h
    rw [wipE, List.getElem?_set_ne (fun e => h.1 e.symm), ih h.2]
theorem wipe_out {vs : List Nat} {σ : L2.St} {j : Nat} (h : j ∉ vs) : (wipe σ vs)[j]? = σ[j]? := by
  induction vs with
  | nil => rfl
  | cons v vs ih =>
    simp only [List.mem_cons, not_or] at h
    rw [wipe, List.getElem?_set_ne (fun e => h.1 e.symm), ih h.2]
theorem wipe_in {vs : List Nat} {σ : L2.St} {j : Nat} (h : j ∈ vs) : (wipe σ vs)[j]? = if j < σ.length then some none else none := by
  by_cases hj : j < σ.length
  · rw [if_pos hj]
    induction vs with
    | nil => cases h
    | cons v vs ih =>
      rw [wipe]
      by_cases e : v = j
      · subst e; exact List.getElem?_set_self (by rw [wipe_length]; exact hj)
      · rw [List.getElem?_set_ne e]
        exact ih ((List.mem_cons.mp h).resolve_left fun z => e z.symm)
  · rw [if_neg hj]
    exact List.getElem?_eq_none (by rw [wipe_length]; omega)
theorem wipe_eq {vs is : List Nat} {σ σ2 : L2.St} (hs : ∀ i, i ∈ is → i ∈ vs) (hl : σ2.length = (wipe σ vs).length) (h : ∀ j, j ∉ is → σ2[j]? = (wipe σ vs)[j]?) : wipe σ2 vs = wipe σ vs := by
  rw [wipe_length] at hl
  apply List.ext_getElem?
  intro j
  by_cases hj : j ∈ vs
  · rw [wipe_in hj, wipe_in hj, hl]
  · rw [wipe_out hj, h j fun z => hj (hs j z)]
def Fr.blk (c : Fr) (own : Own) (H1 : Hp) (D : Addr) : Fr := ⟨upd H1 D (.lst []), fun a => Av c (ow own) false a ∧ a ≠ D, fun a => ow own a ∨ a = D, fun _ => none⟩
open Classical in
noncomputable def Own.blk (own : Own) (Fb : List SF) : Own := ⟨fun j => if Fb[j]? = some .z then own.sl j else [], fun _ => False⟩
section
variable {G : Gb} {S : Se} {W : WX} {N : List Str} {sc scope : Scope} {k : Nat} {X : Cx} {F F1 F2 F3 F4 Fh : List SF} {Fo : List SF} {f f1 f2 : VF} {c : Fr} {en : En} {own own0 : Own} {σ : L2.St} {H H' H0 H1 : Hp} {Da : Addr} {vs : List Nat}
theorem ow_blk {Fb : List SF} {a : Addr} (h : ow (own.blk Fb) a) : ow own a := by
  rcases h with ⟨j, hj⟩ | h
  · unfold Own.blk at hj
    dsimp only at hj
    split at hj
    · exact .inl ⟨j, hj⟩
    · cases hj
  · exact h.elim
theorem up_blk (ok : Ok G c F en own σ H1) (hD : H1 Da = none) (s : Same H1 H) {dp : Bool} {Fb : List SF} : Up G.K (Av c (ow own) dp) (Av (c.blk own H1 Da) (ow (own.blk Fb)) false) H1 H := by
  have m : ∀ {a o}, Av c (ow own) dp a → H1 a = some o → Av (c.blk own H1 Da) (ow (own.blk Fb)) false a := fun {a o} h e =>
    ⟨fun z => h.1 (ow_blk z), fun z => (nomatch z), .inr ⟨h.undp, fun z => by rw [z, hD] at e; cases e⟩⟩
  refine ⟨fun a xs h e => ⟨m h e, s _ _ e⟩, fun a kvs h e => ⟨?_, rdS e s⟩, fun a C dx fs h e => ⟨m h e, s _ _ e⟩, fun a xs e => rdS e s, fun a xs e => sfS e s⟩
  rcases e with e | ⟨o, e⟩
  · exact m h e
  · exact m h e
theorem blk_ok (ok : Ok G c F en own σ H1) (hD : H1 Da = none) (s : Same H1 H) {o : HO} (hH : H Da = some o) : Ok G (c.blk own H1 Da) (blkF vs F) (wipE vs en) (own.blk (blkF vs F)) (wipe σ vs) H := by
  refine { lF := by rw [wipe_length, ← ok.lF]; simp [blkF, wipF_len], lE := by rw [wipe_length, wipE_len]; exact ok.lE, same := fun b x nb e => ?_, tr := fun a h => ?_, dj := fun i j a h1 h2 => ?_, dt := fun i a h z => z.elim, nt := fun a h => h.elim, nw := fun i a h => ?_, sl := fun i => ?_, lk := fun a x h => (nomatch h) }
  · have ne : b ≠ Da := fun z => nb (.inr z)
    have e' : H1 b = some x := by
      have z : (upd H1 Da (.lst []) : Hp) b = some x := e
      rw [upd_ne ne] at z
      exact z
    exact s _ _ e'
  · rcases h with h | h
    · exact same_ne s (ok.trk h)
    · rw [h, hH]; simp
  · unfold Own.blk at h1 h2
    dsimp only at h1 h2
    split at h1
    · split at h2
      · exact ok.dj i j a h1 h2
      · cases h2
    · cases h1
  · unfold Own.blk at h
    dsimp only at h
    split at h
    · rename_i z
      exact ⟨same_ne s (ok.nw i a h).1, .inr ⟨z, .inl (.inl ⟨i, h⟩)⟩⟩
    · cases h
  · by_cases hi : i ∈ vs
    · unfold Slt
      rcases wipF_in (F := F.map SF.blk) hi with e | e
      · rw [show (blkF vs F)[i]? = _ from e]; simp
      · rw [show (blkF vs F)[i]? = _ from e]; simp
    · have hF : (blkF vs F)[i]? = (F[i]?).map SF.blk := by
        unfold blkF
        rw [wipF_out hi, List.getElem?_map]
      have h := ok.sl i
      unfold Slt at h ⊢
      rw [hF, wipE_out hi, wipe_out hi]
      have hz : (blkF vs F)[i]? = some .z → (own.blk (blkF vs F)).sl i = own.sl i := fun z => if_pos z
      cases q : F[i]? with
      | none => simp
      | some f =>
        rw [q] at h hF
        cases he : en[i]? with
        | none => cases f <;> simp [SF.blk]
        | some od =>
          cases od with
          | none => cases f <;> simp [SF.blk]
          | some d =>
            rw [he] at h
            cases f with
            | n => simp [SF.blk]
            | x a => simp [SF.blk]
            | s dp => obtain ⟨x, h1, h2⟩ := h; exact ⟨x, h1, R.up (up_blk ok hD s) _ h2⟩
            | o dp =>
              obtain ⟨x, h1, h2⟩ := h
              refine ⟨x, h1, ?_⟩
              rw [hz hF]
              exact ⟨RO.up h2 (up_blk ok hD s) (fun a o _ e => s _ _ e), fun a ha => .inl (.inl ⟨i, ha⟩)⟩
            | z =>
              obtain ⟨x, h1, h2, _⟩ := h
              refine ⟨x, h1, ?_⟩
              rw [hz hF]
              exact ⟨RO.up h2 (up_blk ok hD s) (fun a o _ e => s _ _ e), fun a ha => .inl (.inl ⟨i, ha⟩)⟩
theorem up_out (ok : Ok G c F en own σ H1) (hD : H1 Da = none) {O : Addr → Prop} {dp : Bool} : Up G.K (Av (c.blk own H1 Da) O dp) (Av c (ow (own.resL [Da])) dp) H H := by
  have m : ∀ {a}, Av (c.blk own H1 Da) O dp a → Av c (ow (own.resL [Da])) dp a := fun {a} h => by
    have no : ow (own.resL [Da]) a → False := fun z => by
      have z2 : ow own a ∨ a = Da := by
        rcases z with z | z | z
        · exact .inl (.inl z)
        · exact .inl (.inr z)
        · exact .inr (by simpa using z)
      rcases h.2.2 with q | q
      · have q' : (upd H1 Da (.lst []) : Hp) a = none := q
        rcases z2 with z2 | z2
        · have ne : a ≠ Da := fun e => ok.trk z2 (by rw [e]; exact hD)
          rw [upd_ne ne] at q'
          exact ok.trk z2 q'
        · rw [z2, upd_same] at q'; cases q'
      · rcases z2 with z2 | z2
        · exact q.1.1 z2
        · exact q.2 z2
    have fr : (upd H1 Da (.lst []) : Hp) a = none → c.H0 a = none := fun q => by
      have ne : a ≠ Da := fun e => by rw [e, upd_same] at q; cases q
      rw [upd_ne ne] at q
      exact ok.free q
    refine ⟨no, fun z => fr (h.2.1 z), ?_⟩
    rcases h.2.2 with q | q
    · exact .inl (fr q)
    · exact q.1.2.2
  exact ⟨fun a xs h e => ⟨m h, e⟩, fun a kvs h e => ⟨m h, e⟩, fun a C dx fs h e => ⟨m h, e⟩, fun a xs e => e, fun a xs e => e⟩
theorem up_in {Fb : List SF} {dp : Bool} : Up G.K (Av (c.pin own H1) (ow (own.resL [Da])) dp) (Av (c.blk own H1 Da) (ow (own.blk Fb)) false) H H := by
  have m : ∀ {a}, Av (c.pin own H1) (ow (own.resL [Da])) dp a → Av (c.blk own H1 Da) (ow (own.blk Fb)) false a := fun {a} h => by
    have n1 : ¬ ow own a := fun z => h.1 (z.elim .inl fun z => .inr (.inl z))
    exact ⟨fun z => n1 (ow_blk z), fun z => (nomatch z), .inr ⟨⟨n1, fun z => (nomatch z), h.2.2⟩, fun z => h.1 (.inr (.inr (by simp [z])))⟩⟩
  exact ⟨fun a xs h e => ⟨m h, e⟩, fun a kvs h e => ⟨m h, e⟩, fun a C dx fs h e => ⟨m h, e⟩, fun a xs e => e, fun a xs e => e⟩
abbrev wF : WX := fun _ _ _ _ => False
/-- the names of a block, as the model has them -/
def rl (sc scope : Scope) : Scope := { scope with names := scope.names.map fun (n, k) => if (k == NameKind.free && sc.kind == .function && sc.names.lookup n == some .cell) then (n, NameKind.cell) else (n, k) }
theorem Gd.blk (g : Gd G N sc k W X) {s : Shared} {H : Hp} {C : Addr} {cl : List (Str × Addr)} {fp : List Addr} : Gd G N (rl sc scope) k wF (X.blk s H scope (compEnvC scope cl C X.env) fp) :=
  { prog := g.prog, w := g.w, K := g.K, mg := g.mg, base := g.base, nN := g.nN, nd := g.nd, sc := by rw [← g.sc] <;> rfl, un := g.un, calm := g.calm, room := g.room, tk := takes0, po := PassesOwn.never }
theorem dts_nil : PTs X [] (TTv G W F F (fun _ => .ok true)) := ⟨fun pins s σ H Q I hw => pts_nil.run pins s σ H Q I (by
  obtain ⟨c, en, own, ok, m⟩ := hw
  exact m H own ok (Same.refl H) sub_refl)⟩
theorem dts_one {e : Expr} {t : En → Rs Bool} (h : PT X e (TTv G W F F1 t)) : PTs X [e] (TTv G W F F1 t) := pts_one h
def noR {α : Type} : Rs α → Rs α
  | .ok a => .ok a
  | .error _ => .error .stuck
def evLc (set : En → D → Option En) (t : En → Rs Bool) (e : EvE) (enb : En) : List D → Rs (List D)
  | [] => .ok []
  | d :: ds => bnd (ofO (set enb d)) fun en1 => bnd (t en1) fun b => if b = true then bnd (e en1) fun y => bnd (evLc set t e enb ds) fun r => .ok (y :: r) else evLc set t e enb ds
def eLc (vs : List Nat) (evI : EvI) (set : En → D → Option En) (t : En → Rs Bool) (e : EvE) : EvE := fun en => bnd (evI en) fun ds => bnd (noR (evLc set t e (wipE vs en) ds)) fun l => if l.length ≤ sizeLine then .ok (.lst l) else .error .stuck
theorem noR_ok {α : Type} {r : Rs α} {q : α → Prop} (h : Mt G W c σ (noR r) q) : ∃ a, r = .ok a ∧ q a := by
  cases r with
  | ok a => exact ⟨a, rfl, h⟩
  | error e => exact h.elim
theorem bnd_ok' {α β : Type} {r : Rs α} {h : α → Rs β} {b : β} (e : bnd r h = .ok b) : ∃ a, r = .ok a ∧ h a = .ok b := by
  cases r with
  | ok a => exact ⟨a, rfl, e⟩
  | error x => cases e
theorem ofO_ok' {α : Type} {o : Option α} {a : α} (e : ofO o = .ok a) : o = some a := by
  cases o with
  | none => cases e
  | some b => cases e; rfl
theorem lc_core {wi : TI} {gg : TG} {tt : TT} {te : TE} {dpi : Bool} {is : List Nat} {evI : EvI} {set : En → D → Option En} {t : En → Rs Bool} {ee : EvE} {tg : Expr} {X' : Cx} (hi : ∀ σ H Q, TIv G W F F1 dpi evI σ H Q → wi σ H Q)
    (hg : TgO G X' tg gg (blkF vs F1) F2 false is set) (ht : ∀ σ H Q, TTv G wF F2 F3 t σ H Q → tt σ H Q) (he : ∀ σ H Q, TEv G wF F3 F4 f ee σ H Q → te σ H Q) (his : ∀ i, i ∈ is → i ∈ vs) (hn : f.nb = true) :
    ∀ σ H Q, TEv G W F F1 (.uq f.dp) (eLc vs evI set t ee) σ H Q → tLc wi gg tt te vs σ H Q := by
  rintro σ H Q ⟨c, en, own, ok, m⟩
  refine hi _ _ _ ⟨c, en, own, ok, m.bnd.imp fun ds _ q J H1 own1 ok1 s1 b1 its D hD => ?_⟩
  obtain ⟨l, el, q⟩ := noR_ok q.bnd
  split at q
  · rename_i hlen
    have hfin : ∀ {H : Hp}, Same H1 H → H D ≠ none → Ok G c F1 en (own1.resL [D]) σ H := fun sH nD => ok1.resL sH (fun a ha => by rw [show a = D by simpa using ha]; exact hD) (fun a ha => by rw [show a = D by simpa using ha]; exact nD)
    refine ⟨fun i m H => m = ds.length - i ∧ i ≤ ds.length ∧ Same H1 H ∧ ∃ acc done rest, H D = some (.lst acc) ∧ RL G (Av c (ow (own1.resL [D])) f.dp) H done acc ∧ evLc set t ee (wipE vs en) (ds.drop i) = .ok rest ∧ done ++ rest = l, ⟨_, rfl, Nat.zero_le _, same_new hD, [], [], l, upd_same, rfl, el, rfl⟩, ?_⟩
    rintro i m H ⟨rfl, hi, sH, acc, done, rest, hHD, hRL, hev, hl⟩
    by_cases hlt : i < ds.length
    · have hd : ds[i]? = some ds[i] := List.getElem?_eq_getElem hlt
      rw [List.drop_eq_getElem_cons hlt] at hev
      obtain ⟨en1, e1, hev⟩ := bnd_ok' hev
      obtain ⟨b, e2, hev⟩ := bnd_ok' hev
      have okP : Ok G (c.pin own1 H1) F1 en (own1.resL [D]) σ H := ok1.pin.resL sH (fun a ha => by rw [show a = D by simpa using ha]; exact hD) (fun a ha => by rw [show a = D by simpa using ha, hHD]; simp)
      obtain ⟨hgo, hy⟩ := its.go okP hd
      refine .inr ⟨hgo, fun H5 => Same H1 H5 ∧ ∃ acc done rest, H5 D = some (.lst acc) ∧ RL G (Av c (ow (own1.resL [D])) f.dp) H5 done acc ∧ evLc set t ee (wipE vs en) (ds.drop (i + 1)) = .ok rest ∧ done ++ rest = l, fun H5 q5 => ⟨_, by omega, rfl, hlt, q5.1, q5.2⟩, fun x H' y => ?_⟩
      obtain ⟨sm, rx⟩ := hy x H' y
      have blk := blk_ok (vs := vs) ok1 hD (sH.trans sm) (sm _ _ hHD)
      refine hg.ok blk (R.up up_in _ rx) (ofO_ok' e1) fun σ2 own2 ok2 _ z => ⟨wipe_eq his z.1 z.2, ht _ _ _ ⟨_, en1, own2, ok2, ?_⟩⟩
      rw [e2]
      intro H3 own3 ok3 s3 b3
      cases b with
      | false =>
        rw [if_neg (by decide)] at hev ⊢
        exact ⟨(sH.trans sm).trans s3, acc, done, rest, s3 _ _ (sm _ _ hHD), RL.up (Up.same (sm.trans s3) fun _ h => h) _ hRL, hev, hl⟩
      | true =>
        rw [if_pos rfl] at hev ⊢
        obtain ⟨y', e3, hev⟩ := bnd_ok' hev
        obtain ⟨r, e4, hev⟩ := bnd_ok' hev
        cases hev
        refine he _ _ _ ⟨_, en1, own3, ok3, ?_⟩
        rw [e3]
        intro v H4 own4 ok4 s4 b4 r4
        obtain ⟨own5, ok5, sb5, a4⟩ := r4.share ok4 hn
        have hD4 : H4 D = some (.lst acc) := s4 _ _ (s3 _ _ (sm _ _ hHD))
        have s14 : Same H1 H4 := ((sH.trans sm).trans s3).trans s4
        have nA : ¬ Av c (ow (own1.resL [D])) f.dp D := fun z => z.1 (.inr (.inr (by simp)))
        have hlen2 : acc.length < sizeLine := by
          rw [hRL.len]
          have := congrArg List.length hl
          simp only [List.length_append, List.length_cons] at this
          omega
        refine ⟨acc, hD4, hlen2, fun b o e => ?_, acc ++ [v], done ++ [y'], r, upd_same, RL.app (RL.up (Up.write hD4 trivial nA) _ (RL.up (Up.same ((sm.trans s3).trans s4) fun _ h => h) _ hRL)) (RL.cons (R.up (Up.write hD4 trivial nA) _ (R.up (up_out ok1 hD) _ a4)) RL.nil), e4, by rw [← hl]; simp⟩
        rw [upd_ne (fun z => by rw [z, hD] at e; cases e)]
        exact s14 _ _ e
    · have e : i = ds.length := by omega
      subst e
      rw [List.drop_length] at hev
      cases hev
      rw [List.append_nil] at hl
      subst hl
      have okf := hfin sH (by rw [hHD]; simp)
      have okP : Ok G (c.pin own1 H1) F1 en (own1.resL [D]) σ H := ok1.pin.resL sH (fun a ha => by rw [show a = D by simpa using ha]; exact hD) (fun a ha => by rw [show a = D by simpa using ha, hHD]; simp)
      exact .inl ⟨its.stop okP, q (.ref D) H _ okf (s1.trans sH) (sub_trans b1 s1 (sub_resL fun a ha => by rw [show a = D by simpa using ha]; exact hD)) ⟨[D], ⟨D, acc, rfl, rfl, hHD, hRL⟩, fun a ha => .inr ha⟩⟩
  · exact q.elim
theorem blkFn {s : Shared} {H : Hp} {cenv : Env} {fp : List Addr} : ∀ x, scope.names.lookup x = some .cell → (X.blk s H scope cenv fp).fn x = true := fun x h => by
  show (scope.names.lookup x == some .cell) = true
  rw [h]
  rfl
/-- a target that is a cell of the block -/
theorem tg_nameC (g : Gv G N sc X) (hc : ∀ x, scope.names.lookup x = some .cell → X.fn x = true) (i : Nat) {x : Str} {pos : Pos} {dp : Bool} (hN : N[i]? = some x := by rfl) (hx : locB sc x = true := by rfl) (hl : scope.names.lookup x = some .cell := by rfl) (hz : zB F i = true := by rfl) : TgO G X (.Name x pos) (gName i) F (F.set i (.s dp)) dp [i] (set1 i) := by
  refine ⟨pg_name (by rw [g.nN]; exact g.nd) (by rw [g.nN]; exact hN) (locB_loc hx g.sc) (.inl (hc x hl)), fun {c en own σ H d v en' Q} ok r e q => ?_⟩
  cases e
  obtain ⟨h1, h2⟩ := zB_of hz
  obtain ⟨own2, ok2, sb⟩ := ok.put (f := .sh dp) h1 h2 r rfl
  exact q _ own2 ok2 sb ⟨by simp, fun j hj => List.getElem?_set_ne (fun e => hj (by simp [e]))⟩
theorem de_lc (g : Gd G N sc k W X) (own : List (Str × Nat)) {elt tg iter : Expr} {ifs : List Expr} {pos : Pos} {gg : TG} {dpi : Bool} {is : List Nat} {evI : EvI} {set : En → D → Option En} {t : En → Rs Bool} {ee : EvE} (hi : PI X tg iter (TIv G W F F1 dpi evI)) (ok : BlkOk N sc scope own)
    (hg : ∀ X', Gd G N (rl sc scope) k wF X' → (∀ x, scope.names.lookup x = some .cell → X'.fn x = true) → TgO G X' tg gg (blkF (own.map (·.2)) F1) F2 false is set) (ht : ∀ X', Gd G N (rl sc scope) k wF X' → PTs X' ifs (TTv G wF F2 F3 t)) (he : ∀ X', Gd G N (rl sc scope) k wF X' → PE X' elt (TEv G wF F3 F4 f ee))
    (his : ∀ i, i ∈ is → i ∈ own.map (·.2) := by decide) (hn : f.nb = true := by rfl) (hs : ∀ x, foldedSetIterable iter X.env x = pure x := by intro _; rfl) : PE X (.ListComp elt [⟨tg, iter, ifs, 0⟩] scope pos) (TEv G W F F1 (.uq f.dp) (eLc (own.map (·.2)) evI set t ee)) :=
  pe_imp (pe_lc g.calm (by rw [g.nN]; exact g.nd) hi (by rw [g.nN, g.sc]; exact ok) (fun s H C cl fp => (hg _ g.blk blkFn).pg) (fun s H C cl fp => ht _ g.blk) (fun s H C cl fp => he _ g.blk) hs)
    (lc_core (fun _ _ _ z => z) (hg _ (g.blk (s := X.s_0) (H := X.H_0) (C := 0) (cl := []) (fp := [])) blkFn) (fun _ _ _ z => z) (fun _ _ _ z => z) his hn)
theorem sw_lc {elt : Expr} {gs : List Comprehension} {pos py : Pos} {y : Str} {l : Nat} {env : Env} : swapsWith (.ListComp elt gs scope pos) (some (.Name y py)) l env = pure (env.blockKind == .function && env.kindOf y == some .local && py.line == pos.line && !(scope.names.any fun (n, k) => n == y && (k == .local || k == .cell))) := rfl
theorem sw_lc_yes (g : Gs G N sc k W X) {elt : Expr} {gs : List Comprehension} {pos py : Pos} {y : Str} {l : Nat} (hy : plainLocB sc y = true) (hl : (py.line == pos.line) = true) (hn : (scope.names.any fun (n, k) => n == y && (k == .local || k == .cell)) = false) : swapsWith (.ListComp elt gs scope pos) (some (.Name y py)) l X.env = pure true := by
  rw [sw_lc]
  have hb : X.env.blockKind = .function := by unfold Env.blockKind; rw [g.g.sc, g.kd]; rfl
  have hk : X.env.kindOf y = some .local := plainLocB_loc hy g.g.sc
  rw [hb, hk, hl, hn]
  rfl
theorem sw_lc_no (g : Gs G N sc k W X) {elt : Expr} {gs : List Comprehension} {pos py : Pos} {y : Str} {l : Nat} (hy : plainLocB sc y = false) : swapsWith (.ListComp elt gs scope pos) (some (.Name y py)) l X.env = pure false := by
  rw [sw_lc]
  have hk : (X.env.kindOf y == some .local) = false := by
    have e : X.env.kindOf y = sc.names.lookup y := by rw [← g.g.sc] <;> rfl
    rw [e]
    unfold plainLocB at hy
    split at hy
    · cases hy
    · rename_i q
      cases z : sc.names.lookup y with
      | none => rfl
      | some t => cases t <;> first | rfl | exact absurd z q
  rw [hk, Bool.and_false, Bool.false_and, Bool.false_and]
/-- name = [..], the name a cell -/
theorem ds_asLcC (g : Gs G N sc k S.W X) (i : Nat) {elt : Expr} {gs : List Comprehension} {pos py spos : Pos} {y : Str} {ev : EvE} (he : PE X (.ListComp elt gs scope pos) (TEv G S.W F F1 f ev)) (hN : N[i]? = some y := by rfl) (hx : locB sc y = true := by rfl) (hz : zB F1 i = true := by rfl) (hn : f.nb = true := by rfl) (hy : plainLocB sc y = false := by rfl) :
    PS X (.Assign [.Name y py] (.ListComp elt gs scope pos) spos) (TSv G S F (F1.set i f.slot) (sAs i ev)) :=
  ds_as g.g.toGv g.fn i he hN hx hz hn (sw_lc_no g hy)
/-- name = [..] -/
theorem ds_asLc (g : Gs G N sc k S.W X) (i : Nat) (own : List (Str × Nat)) {y : Str} {py spos : Pos} {elt tg iter : Expr} {ifs : List Expr} {pos : Pos} {gg : TG} {dpi : Bool} {is : List Nat} {evI : EvI} {set : En → D → Option En} {t : En → Rs Bool} {ee : EvE} (hi : PI X tg iter (TIv G S.W F F1 dpi evI)) (ok : BlkOk N sc scope own)
    (hg : ∀ X', Gd G N (rl sc scope) k wF X' → (∀ x, scope.names.lookup x = some .cell → X'.fn x = true) → TgO G X' tg gg (blkF (own.map (·.2)) F1) F2 false is set) (ht : ∀ X', Gd G N (rl sc scope) k wF X' → PTs X' ifs (TTv G wF F2 F3 t)) (he : ∀ X', Gd G N (rl sc scope) k wF X' → PE X' elt (TEv G wF F3 F4 f ee))
    (his : ∀ i, i ∈ is → i ∈ own.map (·.2) := by decide) (hn : f.nb = true := by rfl) (hN : N[i]? = some y := by rfl) (hy : plainLocB sc y = true := by rfl) (hz : zB F1 i = true := by rfl)
    (hln : (py.line == pos.line) = true := by rfl) (hnn : (scope.names.any fun (n, k) => n == y && (k == .local || k == .cell)) = false := by rfl) (hs : ∀ x, foldedSetIterable iter X.env x = pure x := by intro _; rfl) :
    PS X (.Assign [.Name y py] (.ListComp elt [⟨tg, iter, ifs, 0⟩] scope pos) spos) (TSv G S F (F1.set i (.o f.dp)) (sAs i (eLc (own.map (·.2)) evI set t ee))) :=
  ps_imp (ps_setLc (i := i) g.g.calm (by rw [g.g.nN]; exact g.g.nd) (by rw [g.g.nN]; exact hN) (plainLocB_loc hy g.g.sc) (sw_lc_yes g hy hln hnn) hi (by rw [g.g.nN, g.g.sc]; exact ok) (fun s H C cl fp => (hg _ g.g.blk blkFn).pg) (fun s H C cl fp => ht _ g.g.blk) (fun s H C cl fp => he _ g.g.blk) hs)
    (as_core (f := .uq f.dp) hz rfl (lc_core (fun _ _ _ z => z) (hg _ (g.g.blk (s := X.s_0) (H := X.H_0) (C := 0) (cl := []) (fp := [])) blkFn) (fun _ _ _ z => z) (fun _ _ _ z => z) his hn))
/-- a look at the names of a block -/
def blkB (N : List Str) (sc scope : Scope) (own : List (Str × Nat)) : Bool :=
  decide (scope.kind = .function) && scope.names.all (fun y => decide (scope.names.lookup y.1 = some y.2)) && own.all (fun p => decide (N[p.2]? = some p.1)) &&
  scope.names.all (fun y => !decide (y.2 = .free) || decide (sc.names.lookup y.1 = some .cell) || decide (sc.names.lookup y.1 = some .free)) &&
  scope.names.all (fun y => !(decide (y.2 = .local) || decide (y.2 = .cell)) || decide (y.1 ∈ own.map (·.1)) || decide (y.1 ∉ N))
theorem blk_by {own : List (Str × Nat)} (h : blkB N sc scope own = true) : BlkOk N sc scope own := by
  simp only [blkB, Bool.and_eq_true, decide_eq_true_eq, List.all_eq_true, Bool.or_eq_true, Bool.not_eq_true', decide_eq_false_iff_not, Bool.or_eq_false_iff] at h
  obtain ⟨⟨⟨⟨h1, h2⟩, h3⟩, h4⟩, h5⟩ := h
  refine ⟨h1, h2, h3, fun y hy e => ?_, fun y hy e => ?_⟩
  · rcases h4 y hy with (z | z) | z
    · exact absurd e z
    · exact .inl z
    · exact .inr z
  · rcases h5 y hy with (z | z) | z
    · rcases e with e | e
      · exact absurd e z.1
      · exact absurd e z.2
    · exact .inl z
    · exact .inr z
end
end Pi
namespace Pi
open PySem PySem.Spec PyProof.Rows L2
section
variable {G : Gb} {S : Se} {W : WX} {N : List Str} {sc scope : Scope} {k : Nat} {X : Cx} {F F1 F2 F3 F4 Fh : List SF} {Fo : List SF} {f f1 f2 : VF} {c : Fr} {en : En} {own own0 : Own} {σ : L2.St} {H H' H0 H1 : Hp}
/-! ### enumerate, zip -/
theorem RL.ints {A : Addr → Prop} {H : Hp} : ∀ l : List Int, RL G A H (l.map D.int) (l.map V.int)
  | [] => rfl
  | z :: l => RL.cons rfl (RL.ints l)
/-- a list that is walked, at a later time -/
theorem its_at {dp : Bool} {d : D} {ds : List D} {a : Addr} (h : R G (Av c (ow own0) dp) H0 d (.ref a)) (e : itemsL d = some ds) (ok : Ok G (c.pin own0 H0) F en own σ H) : ∃ xs, SqL G.K H a xs ∧ RL G (Av c (ow own) dp) H ds xs := by
  have h2 := R.up (Up.pin ok) _ h
  cases d <;> first | (cases e; done) | skip
  · obtain rfl := Option.some.inj e
    obtain ⟨a', xs, e, _, h1, r⟩ := h2
    cases e
    exact ⟨xs, SqL.of h1, r⟩
  · rename_i l
    obtain rfl := Option.some.inj e
    obtain ⟨a', e, h1⟩ := h2
    cases e
    exact ⟨_, h1.sq, RL.ints l⟩
def enumD : Nat → List D → List D
  | _, [] => []
  | k, d :: ds => .tup [.int k, d] :: enumD (k + 1) ds
theorem enumD_len : ∀ (k : Nat) (l : List D), (enumD k l).length = l.length
  | _, [] => rfl
  | k, _ :: l => congrArg Nat.succ (enumD_len (k + 1) l)
theorem enumD_at : ∀ (k : Nat) (l : List D) (i : Nat), (enumD k l)[i]? = (l[i]?).map fun d => .tup [.int ((k + i : Nat) : Int), d]
  | _, [], i => by simp [enumD]
  | k, d :: l, 0 => by simp [enumD]
  | k, d :: l, i + 1 => by
    rw [show (enumD k (d :: l))[i + 1]? = (enumD (k + 1) l)[i]? from rfl, enumD_at (k + 1) l i, show (d :: l)[i + 1]? = l[i]? from rfl]
    congr 1
    funext d'
    rw [show k + 1 + i = k + (i + 1) by omega]
def oEnum : List D → Option (List D)
  | [d] => (itemsL d).map (enumD 0)
  | _ => none
def iEn (ea : En → Rs (List D)) : EvI := fun en => bnd (ea en) fun ds => ofO (oEnum ds)
theorem di_enum (g : Gd G N sc k W X) {e : Expr} {p pos tpos : Pos} {elts : List Expr} {kk : Nat} {ea : En → Rs (List D)} (hm : G.mg "enumerate" = none) (ha : PA X [e] (TAv G W F F1 [f] ea)) (hn : f.nb = true := by rfl) (hg : glbB sc "enumerate" = true := by rfl) (hs : starEach [e] X.env = [(false, eval e X.env)] := by rfl) :
    PI X (.Tuple elts kk tpos) (.Call (.Name "enumerate" p) [e] [] pos) (TIv G W F F1 f.dp (iEn ea)) := by
  refine pi_imp (pi_enum (glbB_gl hg g.sc) (by rw [g.mg]; exact hm) ha hs) ?_
  rw [g.K]
  rintro σ H Q ⟨c, en, own, ok, m⟩
  refine ⟨c, en, own, ok, m.bnd.imp fun ds hd0 q vs H1 own1 ok1 s1 b1 r1 => ?_⟩
  clear hd0
  obtain ⟨its, e, q⟩ := q.ofO
  obtain ⟨d, r, v, t, rfl, rfl, h1, h2⟩ := r1
  obtain ⟨rfl, rfl⟩ := h2
  obtain ⟨l, el, rfl⟩ := Option.map_eq_some_iff.mp e
  have h1' := h1.r hn
  obtain ⟨a, rfl⟩ := itemsL_ref h1' el
  obtain ⟨xs0, z1, _⟩ := its_at h1' el ok1.pin
  refine ⟨a, xs0, rfl, z1, q _ H1 own1 ok1 s1 b1 ⟨fun {F en own σ H i d} ok hd => ?_, fun {F en own σ H} ok => ?_⟩⟩
  · obtain ⟨xs, hq, hr⟩ := its_at h1' el ok
    rw [enumD_at] at hd
    obtain ⟨d0, hd0, rfl⟩ := Option.map_eq_some_iff.mp hd
    obtain ⟨x, hx, rx⟩ := hr.get hd0
    refine ⟨⟨xs, x, hq, hx⟩, fun y H' z => ?_⟩
    obtain ⟨T, x', rfl, hT, rfl, z⟩ := z
    have := z xs hq
    rw [hx] at this
    cases this
    refine ⟨same_new hT, T, _, rfl, SqT.of upd_same, RL.cons ?_ (RL.cons (R.up (Up.same (same_new hT) fun _ h => h) _ rx) RL.nil)⟩
    show V.int _ = V.int _
    rw [Nat.zero_add]
  · obtain ⟨xs, hq, hr⟩ := its_at h1' el ok
    exact ⟨xs, hq, by rw [hr.len, enumD_len]; exact Nat.le_refl _⟩
def zipD : List D → List D → List D
  | d :: ds, e :: es => .tup [d, e] :: zipD ds es
  | _, _ => []
theorem zipD_len : ∀ l m : List D, (zipD l m).length = min l.length m.length
  | [], _ => by simp [zipD]
  | _ :: _, [] => by simp [zipD]
  | d :: l, e :: m => by simp [zipD, zipD_len l m]
theorem zipD_at : ∀ (l m : List D) (i : Nat) (d : D), (zipD l m)[i]? = some d → ∃ x y, l[i]? = some x ∧ m[i]? = some y ∧ d = .tup [x, y]
  | [], _, i, d, h => by simp [zipD] at h
  | _ :: _, [], i, d, h => by simp [zipD] at h
  | x :: l, y :: m, 0, d, h => by simp [zipD] at h; exact ⟨x, y, rfl, rfl, h.symm⟩
  | x :: l, y :: m, i + 1, d, h => zipD_at l m i d h
def oZip : List D → Option (List D)
  | [d, e] => (itemsL d).bind fun l => (itemsL e).map fun m => zipD l m
  | _ => none
def iZp (ea : En → Rs (List D)) : EvI := fun en => bnd (ea en) fun ds => ofO (oZip ds)
theorem di_zip (g : Gd G N sc k W X) {e e2 : Expr} {p pos tpos : Pos} {elts : List Expr} {kk : Nat} {ea : En → Rs (List D)} (hm : G.mg "zip" = none) (ha : PA X [e, e2] (TAv G W F F1 [f, f2] ea)) (hn : f.nb = true := by rfl) (hn2 : f2.nb = true := by rfl) (hg : glbB sc "zip" = true := by rfl)
    (hs : starEach [e, e2] X.env = (false, eval e X.env) :: starEach [e2] X.env := by rfl) (hpl : (backTo pos (starEach [e2] X.env)).any (·.1) = false := by rfl) :
    PI X (.Tuple elts kk tpos) (.Call (.Name "zip" p) [e, e2] [] pos) (TIv G W F F1 (f.dp && f2.dp) (iZp ea)) := by
  refine pi_imp (pi_zip (glbB_gl hg g.sc) (by rw [g.mg]; exact hm) ha hs hpl) ?_
  rw [g.K]
  rintro σ H Q ⟨c, en, own, ok, m⟩
  refine ⟨c, en, own, ok, m.bnd.imp fun ds hd0 q vs H1 own1 ok1 s1 b1 r1 => ?_⟩
  clear hd0
  obtain ⟨its, e, q⟩ := q.ofO
  obtain ⟨d, r, v, t, rfl, rfl, h1, d2, r2, v2, t2, rfl, rfl, h2, h3⟩ := r1
  obtain ⟨rfl, rfl⟩ := h3
  obtain ⟨l, el, e⟩ := Option.bind_eq_some_iff.mp e
  obtain ⟨l2, el2, rfl⟩ := Option.map_eq_some_iff.mp e
  have h1' := h1.r hn
  have h2' := h2.r hn2
  obtain ⟨a, rfl⟩ := itemsL_ref h1' el
  obtain ⟨a2, rfl⟩ := itemsL_ref h2' el2
  obtain ⟨xs0, z1, _⟩ := its_at h1' el ok1.pin
  obtain ⟨ys0, z2, _⟩ := its_at h2' el2 ok1.pin
  refine ⟨a, a2, xs0, ys0, rfl, z1, z2, q _ H1 own1 ok1 s1 b1 ⟨fun {F en own σ H i d} ok hd => ?_, fun {F en own σ H} ok => ?_⟩⟩
  · obtain ⟨xs, hq, hr⟩ := its_at h1' el ok
    obtain ⟨ys, hq2, hr2⟩ := its_at h2' el2 ok
    obtain ⟨x0, y0, ex, ey, rfl⟩ := zipD_at _ _ _ _ hd
    obtain ⟨x, hx, rx⟩ := hr.get ex
    obtain ⟨y, hy, ry⟩ := hr2.get ey
    refine ⟨⟨xs, ys, x, y, hq, hq2, hx, hy⟩, fun v H' z => ?_⟩
    obtain ⟨T, x', y', rfl, hT, rfl, z3, z4⟩ := z
    have q3 := z3 xs hq
    have q4 := z4 ys hq2
    rw [hx] at q3
    rw [hy] at q4
    cases q3
    cases q4
    exact ⟨same_new hT, T, _, rfl, SqT.of upd_same, RL.cons (R.up (Up.same (same_new hT) fun _ h => h.dpand _) _ rx) (RL.cons (R.up (Up.same (same_new hT) fun _ h => h.dpand' _) _ ry) RL.nil)⟩
  · obtain ⟨xs, hq, hr⟩ := its_at h1' el ok
    obtain ⟨ys, hq2, hr2⟩ := its_at h2' el2 ok
    refine ⟨xs, ys, hq, hq2, ?_⟩
    rw [hr.len, hr2.len, zipD_len]
    omega
/-! ### list(..), tuple(..) -/
def oList : List D → Option D
  | [.lst l] => some (.lst l)
  | [.tup l] => some (.lst l)
  | [.scr l] => some (.lst (l.map .int))
  | _ => none
def foH : List VF → VF
  | [f] => .uq f.dp
  | _ => .uq false
theorem calls_list : CallS G foH (fun xs H Q => ∃ p ys, xs = [.ref p] ∧ (SqL G.K H p ys ∨ SqT G.K H p ys) ∧ ∀ l, H l = none → Q (.ref l) (upd H l (.lst ys))) oList := by
  intro c O H fs ds vs z Q h e q
  match ds, e with
  | [.lst l], e =>
    cases e
    obtain ⟨f, v, rfl, rfl, a, xs, rfl, e1, r1⟩ := h.one
    exact ⟨a, xs, rfl, .inl (SqL.of e1), fun p hp => q.new p _ hp ⟨xs, rfl, r1⟩⟩
  | [.tup l], e =>
    cases e
    obtain ⟨f, v, rfl, rfl, a, xs, rfl, e1, r1⟩ := h.one
    exact ⟨a, xs, rfl, .inr e1, fun p hp => q.new p _ hp ⟨xs, rfl, r1⟩⟩
  | [.scr l], e =>
    cases e
    obtain ⟨f, v, rfl, rfl, a, rfl, e1⟩ := h.one
    exact ⟨a, _, rfl, .inl e1.sq, fun p hp => q.new p _ hp ⟨_, rfl, RL.ints l⟩⟩
theorem de_list (g : Gd G N sc k W X) {p pos : Pos} {e : Expr} {ea : En → Rs (List D)} (hm : G.mg "list" = none) (ha : PA X [e] (TAv G W F F1 [f] ea)) (hx : glbB sc "list" = true := by rfl) (he : starEach [e] X.env = [(false, eval e X.env)] := by rfl) :
    PE X (.Call (.Name "list" p) [e] [] pos) (TEv G W F F1 (.uq f.dp) (eBi oList ea)) :=
  de_callT g.toGv (fo := foH) (T := "list") (by rw [← g.K]; exact call_list_of) calls_list hm (by decide +kernel) ha hx (by decide) he rfl
def oTupl : List D → Option D
  | [.lst l] => some (.tup l)
  | [.tup l] => some (.tup l)
  | [.scr l] => some (.tup (l.map .int))
  | _ => none
def foS : List VF → VF
  | [f] => .sh f.dp
  | _ => .sh false
theorem calls_tuple : CallS G foS (fun xs H Q => ∃ p ys, xs = [.ref p] ∧ ((SqL G.K H p ys ∧ ∀ l, H l = none → Q (.ref l) (upd H l (.tup ys))) ∨ (SqT G.K H p ys ∧ Q (.ref p) H))) oTupl := by
  intro c O H fs ds vs z Q h e q
  match ds, e with
  | [.lst l], e =>
    cases e
    obtain ⟨f, v, rfl, rfl, a, xs, rfl, e1, r1⟩ := h.one
    exact ⟨a, xs, rfl, .inl ⟨SqL.of e1, fun p hp => q.new p _ hp ⟨xs, rfl, r1⟩⟩⟩
  | [.tup l], e =>
    cases e
    obtain ⟨f, v, rfl, rfl, a, xs, rfl, e1, r1⟩ := h.one
    exact ⟨a, xs, rfl, .inr ⟨e1, q.old _ ⟨a, xs, rfl, e1, r1⟩⟩⟩
  | [.scr l], e =>
    cases e
    obtain ⟨f, v, rfl, rfl, a, rfl, e1⟩ := h.one
    exact ⟨a, _, rfl, .inl ⟨e1.sq, fun p hp => q.new p _ hp ⟨_, rfl, RL.ints l⟩⟩⟩
theorem de_tuple (g : Gd G N sc k W X) {p pos : Pos} {e : Expr} {ea : En → Rs (List D)} (hm : G.mg "tuple" = none) (ha : PA X [e] (TAv G W F F1 [f] ea)) (hx : glbB sc "tuple" = true := by rfl) (he : starEach [e] X.env = [(false, eval e X.env)] := by rfl) :
    PE X (.Call (.Name "tuple" p) [e] [] pos) (TEv G W F F1 (.sh f.dp) (eBi oTupl ea)) :=
  de_callT g.toGv (fo := foS) (T := "tuple") (by rw [← g.K]; exact call_tuple_of) calls_tuple hm (by decide +kernel) ha hx (by decide) he rfl
/-- list(range(..)) -/
def oRgL : Int → Int → Option D := fun i j => if bd62 i = true ∧ bd62 j = true ∧ (j - i).toNat ≤ 2 ^ 24 then some (.lst (irng i (j - i).toNat)) else none
theorem RL.rg {A : Addr → Prop} {H : Hp} (i j : Int) : RL G A H (irng i (j - i).toNat) (rgV i j) := by
  unfold irng rgV
  generalize (j - i).toNat = n
  have : ∀ l : List Nat, RL G A H (l.map fun z : Nat => D.int (i + z)) (l.map fun z : Nat => V.int (i + (z : Nat))) := fun l => by
    induction l with
    | nil => exact rfl
    | cons z l ih => exact RL.cons rfl ih
  exact this _
def eRgL1 (a : EvE) : EvE := fun en => bnd (a en) fun x => match x with
  | .int j => ofO (oRgL 0 j)
  | _ => .error .stuck
def eRgL2 (a b : EvE) : EvE := fun en => bnd (a en) fun x => bnd (b en) fun y => match x, y with
  | .int i, .int j => ofO (oRgL i j)
  | _, _ => .error .stuck
theorem rgL_core {i j : Int} {z : D} {Q : VK} (e : oRgL i j = some z) (ok : Ok G c F1 en own σ H) (q : ∀ v H' own', Ok G c F1 en own' σ H' → Same H H' → Sub (ow own) (ow own') H → RV G c own' H' (.uq true) z v → Q v H') :
    RgOk i j ∧ ∀ p, H p = none → Q (.ref p) (upd H p (.lst (rgV i j))) := by
  unfold oRgL at e
  split at e
  · rename_i h
    cases e
    obtain ⟨z1, z2⟩ := bd62_of h.1
    obtain ⟨z3, z4⟩ := bd62_of h.2.1
    exact ⟨⟨z1, z2, z3, z4, h.2.2⟩, fun p hp => (ok.kp (f := .uq true) (z := .lst (irng i (j - i).toNat)) q).new p _ hp ⟨_, rfl, RL.rg i j⟩⟩
  · cases e
theorem de_listR1 (g : Gd G N sc k W X) {a : Expr} {p p2 pos pos2 : Pos} {ea : EvE} (hm : G.mg "list" = none) (hm2 : G.mg "range" = none) (ha : PE X a (TEv G W F F1 f ea)) (hx : glbB sc "list" = true := by rfl) (hx2 : glbB sc "range" = true := by rfl) (na : starEach [a] X.env = (false, eval a X.env) :: starEach [] X.env := by rfl)
    (nb : starEach [.Call (.Name "range" p2) [a] [] pos2] X.env = (false, eval (.Call (.Name "range" p2) [a] [] pos2) X.env) :: starEach [] X.env := by rfl) : PE X (.Call (.Name "list" p) [.Call (.Name "range" p2) [a] [] pos2] [] pos) (TEv G W F F1 (.uq true) (eRgL1 ea)) := by
  refine pe_imp (pe_listRg g.calm (glbB_gl hx g.sc) (by rw [g.mg]; exact hm) (prg_1 (glbB_gl hx2 g.sc) (by rw [g.mg]; exact hm2) ha na) nb) ?_
  rintro σ H Q ⟨c, en, own, ok, m⟩
  refine ⟨c, en, own, ok, m.bnd.imp fun d hd0 q v H1 own1 ok1 s1 b1 r1 => ?_⟩
  clear hd0
  cases d <;> first | exact q.elim | skip
  rename_i j
  obtain ⟨z, ez, q⟩ := q.ofO
  exact ⟨j, r1.int, rgL_core ez ok1 fun v H' own' ok' s' b' r' => q v H' own' ok' (s1.trans s') (sub_trans b1 s1 b') r'⟩
theorem de_listR2 (g : Gd G N sc k W X) {a b : Expr} {p p2 pos pos2 : Pos} {ea eb : EvE} (hm : G.mg "list" = none) (hm2 : G.mg "range" = none) (ha : PE X a (TEv G W F F1 f ea)) (hb : PE X b (TEv G W F1 F2 f2 eb)) (hx : glbB sc "list" = true := by rfl) (hx2 : glbB sc "range" = true := by rfl) (na : starEach [a, b] X.env = (false, eval a X.env) :: starEach [b] X.env := by rfl) (nb : starEach [b] X.env = (false, eval b X.env) :: starEach [] X.env := by rfl) (hp : (backTo pos2 (starEach [b] X.env)).any (·.1) = false := by rfl)
    (nc : starEach [.Call (.Name "range" p2) [a, b] [] pos2] X.env = (false, eval (.Call (.Name "range" p2) [a, b] [] pos2) X.env) :: starEach [] X.env := by rfl) : PE X (.Call (.Name "list" p) [.Call (.Name "range" p2) [a, b] [] pos2] [] pos) (TEv G W F F2 (.uq true) (eRgL2 ea eb)) := by
  refine pe_imp (pe_listRg g.calm (glbB_gl hx g.sc) (by rw [g.mg]; exact hm) (prg_2 (glbB_gl hx2 g.sc) (by rw [g.mg]; exact hm2) ha hb na nb hp) nc) ?_
  rintro σ H Q ⟨c, en, own, ok, m⟩
  refine ⟨c, en, own, ok, m.bnd.imp fun d hd0 q v H1 own1 ok1 s1 b1 r1 => ⟨c, en, own1, ok1, q.bnd.imp fun d2 hd2 q2 v2 H2 own2 ok2 s2 b2 r2 => ?_⟩⟩
  clear hd0 hd2
  cases d <;> first | exact q2.elim | skip
  cases d2 <;> first | exact q2.elim | skip
  rename_i i j
  obtain ⟨z, ez, q3⟩ := q2.ofO
  exact ⟨i, j, r1.int, r2.int, rgL_core ez ok2 fun v H' own' ok' s' b' r' => q3 v H' own' ok' ((s1.trans s2).trans s') (sub_trans (sub_trans b1 s1 b2) (s1.trans s2) b') r'⟩
/-! ### a chain of comparisons -/
def eCh (o o' : D → D → Option D) (a b c : EvE) : EvE := fun en => bnd (a en) fun x => bnd (b en) fun y => bnd (ofO ((o x y).bind asB)) fun t => if t = true then bnd (c en) fun z => ofO (o' y z) else .ok (.bl false)
theorem chain_core {r r' : R2} {op op' : D → D → Option D} {ea eb ec : EvE} (h : OpS G foT r op) (h' : OpS G foT r' op') : ∀ σ H Q, TEv G W F F2 (.uq true) (eCh op op' ea eb ec) σ H Q → tChain r r' (TEv G W F F1 f ea) (TEv G W F1 F2 f2 eb) (TEv G W F2 F2 f1 ec) σ H Q := by
  rintro σ H Q ⟨c, en, own, ok, m⟩
  refine ⟨c, en, own, ok, m.bnd.imp fun x _ m v1 H1 own1 ok1 s1 b1 r1 => ⟨c, en, own1, ok1, m.bnd.imp fun y _ m v2 H2 own2 ok2 s2 b2 r2 => ?_⟩⟩
  obtain ⟨t, et, m⟩ := m.bnd.ofO
  obtain ⟨z, ez, et⟩ := Option.bind_eq_some_iff.mp et
  cases z <;> first | (cases et; done) | skip
  obtain rfl := Option.some.inj et
  refine h c _ H2 x y _ v1 v2 _ _ _ (RB.grow r1.b s2 b2) r2.b ez (ok2.kp (f := .uq true) fun v H3 own3 ok3 s3 b3 r3 => ⟨_, r3.bl, ?_⟩)
  have s13 := (s1.trans s2).trans s3
  have b13 := sub_trans (sub_trans b1 s1 b2) (s1.trans s2) b3
  split at m
  · rename_i ht
    rw [if_pos ht]
    refine ⟨c, en, own3, ok3, m.bnd.imp fun w _ m v4 H4 own4 ok4 s4 b4 r4 => ?_⟩
    obtain ⟨u, eu, q⟩ := m.ofO
    exact h' c _ H4 y w u v2 v4 _ _ Q (RB.grow r2.b (s3.trans s4) (sub_trans b3 s3 b4)) r4.b eu (ok4.kp fun v H5 own5 ok5 s5 b5 r5 => q v H5 own5 ok5 ((s13.trans s4).trans s5) (sub_trans (sub_trans b13 s13 b4) (s13.trans s4) b5) r5)
  · rename_i ht
    rw [if_neg ht]
    exact m _ H3 own3 ok3 s13 b13 (RV.mkB false)
theorem dt_chain {a b b3 : Expr} {o o' : CmpOp} {pos : Pos} {r r' : R2} {op op' : D → D → Option D} {ea eb ec : EvE} (ho : OpR X (compareOp o) r) (h : OpS G foT r op) (ho' : OpR X (compareOp o') r') (h' : OpS G foT r' op') (ha : PE X a (TEv G W F F1 f ea)) (hb : PE X b (TEv G W F1 F2 f2 eb)) (hc : PE X b3 (TEv G W F2 F2 f1 ec))
    (hm : lastMarks [o, o'] [b, b3] = false := by with_unfolding_all rfl) : PT X (.Compare a [o, o'] [b, b3] pos) (TTv G W F F2 (tV (eCh op op' ea eb ec))) :=
  pt_imp (pt_chain ho ho' ha hb hc hm) (tV_core (chain_core h h'))
theorem de_chain {a b b3 : Expr} {o o' : CmpOp} {pos : Pos} {r r' : R2} {op op' : D → D → Option D} {ea eb ec : EvE} (ho : OpR X (compareOp o) r) (h : OpS G foT r op) (ho' : OpR X (compareOp o') r') (h' : OpS G foT r' op') (ha : PE X a (TEv G W F F1 f ea)) (hb : PE X b (TEv G W F1 F2 f2 eb)) (hc : PE X b3 (TEv G W F2 F2 f1 ec))
    (hm : lastMarks [o, o'] [b, b3] = false := by with_unfolding_all rfl) : PE X (.Compare a [o, o'] [b, b3] pos) (TEv G W F F2 (.uq true) (eCh op op' ea eb ec)) := by
  refine pe_imp (pe_chain ho ho' ha hb hc hm) ?_
  exact chain_core h h'
end
end Pi
namespace Pi
open PySem PySem.Spec PyProof.Rows L2
section
variable {G : Gb} {S : Se} {W : WX} {N : List Str} {sc scope : Scope} {k : Nat} {X : Cx} {F F1 F2 F3 F4 Fh : List SF} {Fo : List SF} {f f1 f2 : VF} {c : Fr} {en : En} {own own0 : Own} {σ : L2.St} {H H' H0 H1 : Hp}
/-! ### classes of the text -/
structure Ccl (G : Gb) (c : Nat) (x : Str) (ks : List Str) : Prop where
  cls : Cls G.K (G.ca c)
  cf : G.cf c = ks
  nd : ks.Nodup
  na : ∀ f, f ∈ ks → NoAttr G.K (G.ca c) f
  gl : G.mg x = some (.ref (G.ca c))
theorem lookup_at {fs : List (Str × V)} : ∀ {ks : List Str} {j : Nat} {f : Str}, fs.map (·.1) = ks → ks.Nodup → ks[j]? = some f → fs.lookup f = (fs.map (·.2))[j]? := by
  induction fs with
  | nil => intro ks j f e _ h; subst e; simp at h
  | cons p fs ih =>
    intro ks j f e nd h
    subst e
    obtain ⟨g, v⟩ := p
    simp only [List.map_cons] at nd h ⊢
    cases j with
    | zero =>
      simp at h
      subst h
      simp [List.lookup]
    | succ j =>
      have h' : (fs.map (·.1))[j]? = some f := by simpa using h
      have ne : ¬ f = g := fun e => (List.nodup_cons.mp nd).1 (by rw [← e]; exact List.mem_of_getElem? h')
      have ne' : (f == g) = false := by simpa using ne
      rw [List.lookup, ne']
      simpa using ih rfl (List.nodup_cons.mp nd).2 h'
theorem lookup_no {fs : List (Str × V)} {m : Str} (h : m ∉ fs.map (·.1)) : fs.lookup m = none := by
  induction fs with
  | nil => rfl
  | cons p fs ih =>
    obtain ⟨g, v⟩ := p
    simp only [List.map_cons, List.mem_cons, not_or] at h
    have : (m == g) = false := by simpa using h.1
    rw [List.lookup, this]
    exact ih h.2
theorem putF_new {f : Str} {v : V} : ∀ {fs : List (Str × V)}, f ∉ fs.map (·.1) → putF f v fs = fs ++ [(f, v)]
  | [], _ => rfl
  | (g, x) :: r, h => by
    simp only [List.map_cons, List.mem_cons, not_or] at h
    rw [putF, if_neg (fun e => h.1 e.symm), putF_new h.2]
    rfl
theorem putF_at {f : Str} {v : V} : ∀ {fs : List (Str × V)} {j : Nat}, (fs.map (·.1)).Nodup → (fs.map (·.1))[j]? = some f → (putF f v fs).map (·.1) = fs.map (·.1) ∧ (putF f v fs).map (·.2) = (fs.map (·.2)).set j v
  | [], j, _, h => by simp at h
  | (g, x) :: r, 0, nd, h => by
    simp at h
    subst h
    rw [putF, if_pos rfl]
    exact ⟨rfl, rfl⟩
  | (g, x) :: r, j + 1, nd, h => by
    simp only [List.map_cons] at nd h
    have h' : (r.map (·.1))[j]? = some f := by simpa using h
    have ne : ¬ g = f := fun e => (List.nodup_cons.mp nd).1 (by rw [e]; exact List.mem_of_getElem? h')
    obtain ⟨q1, q2⟩ := putF_at (v := v) (List.nodup_cons.mp nd).2 h'
    rw [putF, if_neg ne]
    exact ⟨by simp [q1], by simp [q2]⟩
/-- o.f -/
def eFld (c j : Nat) (a : EvE) : EvE := fun en => bnd (a en) fun d => match d with
  | .obj c' l => if c' = c then ofO l[j]? else .error .stuck
  | _ => .error .stuck
theorem de_fld (g : Gv G N sc X) {c0 j : Nat} {x f : Str} {ks : List Str} (C : Ccl G c0 x ks) {o : Expr} {pos : Pos} {eo : EvE} {fv : VF} (he : PE X o (TEv G W F F1 fv eo)) (hj : ks[j]? = some f := by rfl) (hb : attributeBase o f X.env (eval o X.env) = eval o X.env := by rfl) : PE X (.Attribute o f pos) (TEv G W F F1 (.sh fv.dp) (eFld c0 j eo)) := by
  refine pe_imp (pe_fld he hb) ?_
  rintro σ H Q ⟨c, en, own, ok, m⟩
  refine ⟨c, en, own, ok, m.bnd.imp fun d hd0 q v H1 own1 ok1 s1 b1 r1 => ?_⟩
  clear hd0
  cases d <;> first | exact q.elim | skip
  rename_i c' l
  dsimp only at q
  split at q
  · rename_i hc
    subst hc
    obtain ⟨d', ed, q⟩ := q.ofO
    obtain ⟨a, dx, fs, rfl, e1, e2, r⟩ := r1.b
    rw [C.cf] at e2
    have hlen : fs.length = l.length := by rw [← r.len]; simp
    have nd2 : (ks.take l.length).Nodup := C.nd.sublist (List.take_sublist _ _)
    have hjl : j < l.length := (List.getElem?_eq_some_iff.mp ed).1
    obtain ⟨w, hw, rw'⟩ := r.get ed
    refine ⟨a, G.ca c', dx, fs, w, rfl, e1, by rw [g.K]; exact C.cls, by rw [g.K]; exact C.na f (List.mem_of_getElem? hj), ?_, q w H1 own1 ok1 s1 b1 rw'⟩
    rw [lookup_at e2 nd2 (j := j) (f := f) (by rw [List.getElem?_take_of_lt hjl]; exact hj)]
    exact hw
  · exact q.elim
/-! ### methods -/
structure MetC (G : Gb) (j : Nat) (c : Nat) (m : Str) (md : Bool) (n : Nat) (fn : List D → Rs D) : Prop where
  ex : ∃ (f : Addr) (fd : FuncData) (ps : List Str), Meth G.K (G.ca c) m f ∧ FnOk G.P G.w G.K G.mg G.base (L2.CX G.P G.w) j f fd ps (spF G md (n + 1) fn) ∧ Binds G.K fd ps []
def tMethS (C : Addr) (m : Str) (sp : Sp) (E : L2.St → XK) (ta : TE) (t : TA) : TE := fun σ H Q => ta σ H fun x H1 => ∃ a dx fs, x = .ref a ∧ H1 a = some (.ins C dx fs) ∧ fs.lookup m = none ∧
  t σ H1 fun vs H2 => sp (x :: vs) H2 Q (E σ)
theorem pe_methSd {X : Cx} {CX : CXT} {k : Nat} {C f : Addr} {fd : FuncData} {ps : List Str} {m : Str} {sp : Sp} {E : L2.St → XK} {o e : Expr} {es : List Expr} {ta : TE} {t : TA} {apos pos : Pos} {pl : Sem Bool} (he : PE X o ta) (c : Cls X.K C) (hm : Meth X.K C m f) (F : FnOk X.prog X.w X.K X.mg X.base CX k f fd ps sp) (hr : Room k X.A) (hb : Binds X.K fd ps []) (hx : ∀ σ, PassesAt CX X σ (E σ)) (ha : PA X (e :: es) t)
    (hst : starEach (e :: es) X.env = (false, eval e X.env) :: starEach es X.env := by rfl) (hpl : (backTo pos (starEach es X.env)).any (·.1) = false := by rfl)
    (ht : eval (.Call (.Attribute o m apos) (e :: es) [] pos) X.env = (do
      let ov ← eval o X.env
      standAt apos.atName
      let (f, first) ← holding [ov] (getMethod ov m pl)
      callWith pos f first (backTo pos (starEach (e :: es) X.env)) (backToKw pos (keywordEach [] X.env))) := by rfl) :
    PE X (.Call (.Attribute o m apos) (e :: es) [] pos) (tMethS C m sp E ta t) := by
  refine ⟨fun pins s σ H Q I h => ?_⟩
  refine PySem.W.methodCall_KW (pl := pl) (thn (he.run pins s σ H _ I h) fun u s1 ⟨x, H1, I1, rx, a, dx, fs, ex, ea, l, q⟩ => ?_) ht
  subst ex
  obtain rfl : u = Value.ref a := rx
  refine getmeth_ok I1 ea c hm l ?_
  refine PySem.W.callWith_K (first := [.ref a]) (h₀ := X.base) I.ok.mod.kin hm.kp (thn (ha.run pos pins s1 σ H1 _ I1 q) fun us s2 ⟨vs, H2, I2, r, q2⟩ => ⟨I2.kIn, ?_⟩) hst hpl
  exact run_fnS (us := .ref a :: us) (vs := .ref a :: vs) F hr hb (hx σ) I2 (.cons rfl r) q2
theorem pe_methSd0 {X : Cx} {CX : CXT} {k : Nat} {C f : Addr} {fd : FuncData} {ps : List Str} {m : Str} {sp : Sp} {E : L2.St → XK} {o : Expr} {ta : TE} {apos pos : Pos} {pl : Sem Bool} (he : PE X o ta) (c : Cls X.K C) (hm : Meth X.K C m f) (F : FnOk X.prog X.w X.K X.mg X.base CX k f fd ps sp) (hr : Room k X.A) (hb : Binds X.K fd ps []) (hx : ∀ σ, PassesAt CX X σ (E σ))
    (ht : eval (.Call (.Attribute o m apos) [] [] pos) X.env = (do
      let ov ← eval o X.env
      standAt apos.atName
      let (f, first) ← holding [ov] (getMethod ov m pl)
      callWith pos f first (backTo pos (starEach [] X.env)) (backToKw pos (keywordEach [] X.env))) := by rfl) :
    PE X (.Call (.Attribute o m apos) [] [] pos) (tMethS C m sp E ta tNil) := by
  refine ⟨fun pins s σ H Q I h => ?_⟩
  refine PySem.W.methodCall_KW (pl := pl) (thn (he.run pins s σ H _ I h) fun u s1 ⟨x, H1, I1, rx, a, dx, fs, ex, ea, l, q⟩ => ?_) ht
  subst ex
  obtain rfl : u = Value.ref a := rx
  refine getmeth_ok I1 ea c hm l ?_
  exact PySem.W.callWith_K0 (first := [.ref a]) I1.kIn hm.kp (run_fnS (us := [.ref a]) (vs := [.ref a]) F hr hb (hx σ) I1 (.cons rfl .nil) q)
def eMeth (c : Nat) (fn : List D → Rs D) (o : EvE) (a : En → Rs (List D)) : EvE := fun en => bnd (o en) fun d => match d with
  | .obj c' l => if c' = c then bnd (a en) fun ds => fn (.obj c' l :: ds) else .error .stuck
  | _ => .error .stuck
theorem meth_core {c0 : Nat} {x m : Str} {ks : List Str} {md : Bool} {n : Nat} {fn : List D → Rs D} {f0 : VF} {fs : List VF} {eo : EvE} {ea : En → Rs (List D)} (C : Ccl G c0 x ks) (hm : m ∉ ks) (hn : fs.length = n) (ha : okArgs md (f0 :: fs) = true) {ta : TE} {t : TA} (h1 : ∀ σ H Q, TEv G W F F1 f0 eo σ H Q → ta σ H Q) (h2 : ∀ σ H Q, TAv G W F1 F2 fs ea σ H Q → t σ H Q) :
    ∀ σ H Q, TEv G W F F2 (VF.ret md) (eMeth c0 fn eo ea) σ H Q → tMethS (G.ca c0) m (spF G md (n + 1) fn) (WE W) ta t σ H Q := by
  rintro σ H Q ⟨c, en, own, ok, m'⟩
  refine h1 _ _ _ ⟨c, en, own, ok, m'.bnd.imp fun d hd0 q v H1 own1 ok1 s1 b1 r1 => ?_⟩
  clear hd0
  cases d <;> first | exact q.elim | skip
  rename_i c' l
  dsimp only at q
  split at q
  · rename_i hc
    subst hc
    obtain ⟨a, dx, fs', rfl, e1, e2, r⟩ := id r1.b
    rw [C.cf] at e2
    obtain ⟨own1', ok1', k1, a1⟩ := RV.arg ok1 r1
    refine ⟨a, dx, fs', rfl, e1, lookup_no (fun z => hm (by rw [e2] at z; exact List.take_subset _ _ z)), h2 _ _ _ ⟨c, en, own1', ok1', q.bnd.imp fun ds _ q vs H2 own2 ok2 s2 b2 r2 => ?_⟩⟩
    have b1' : Sub (ow own) (ow own1') H := fun a h => b1 a (k1 a h)
    have hv : RVL G c (ow own2) H2 (f0 :: fs) (.obj c' l :: ds) (.ref a :: vs) := ⟨_, _, _, _, rfl, rfl, a1.up s2 b2, r2⟩
    refine ⟨by simp [r2.len.2, hn], .obj c' l :: ds, if md = true then fun _ => True else Av c (ow own2) false, ?_, ?_⟩
    · cases md with
      | true => exact hv.any
      | false => exact (hv.rl (by simpa [okArgs] using ha)).an fun a z => z.undp
    · cases e : fn (.obj c' l :: ds) with
      | ok d =>
        rw [e] at q
        intro v H3 s3 r3
        have r3' : RRet G md (Av c (ow own2) false) H2 H3 d v := by cases md <;> exact r3
        obtain ⟨own3, ok3, b3, rv⟩ := ok2.back s3 r3'
        exact q v H3 own3 ok3 ((s1.trans s2).trans s3) (sub_trans (sub_trans b1' s1 b2) (s1.trans s2) b3) rv
      | error x =>
        rw [e] at q
        cases x with
        | stuck => exact q.elim
        | raise x => exact fun H3 s3 => q H3 fun b o nb e => s3 _ _ (ok2.same b o nb e)
  · exact q.elim
theorem de_meth (g : Gd G N sc k W X) {j c0 : Nat} {x m : Str} {ks : List Str} {md : Bool} {n : Nat} {fn : List D → Rs D} {f0 : VF} {fs : List VF} {eo : EvE} {ea : En → Rs (List D)} {o e : Expr} {es : List Expr} {apos pos : Pos} {pl : Sem Bool} (C : Ccl G c0 x ks) (M : MetC G j c0 m md n fn) (he : PE X o (TEv G W F F1 f0 eo)) (ha : PA X (e :: es) (TAv G W F1 F2 fs ea))
    (hj : j ≤ k := by decide) (hm : m ∉ ks := by decide) (hn : fs.length = n := by rfl) (hok : okArgs md (f0 :: fs) = true := by rfl) (hst : starEach (e :: es) X.env = (false, eval e X.env) :: starEach es X.env := by rfl) (hpl : (backTo pos (starEach es X.env)).any (·.1) = false := by rfl)
    (ht : eval (.Call (.Attribute o m apos) (e :: es) [] pos) X.env = (do
      let ov ← eval o X.env
      standAt apos.atName
      let (f, first) ← holding [ov] (getMethod ov m pl)
      callWith pos f first (backTo pos (starEach (e :: es) X.env)) (backToKw pos (keywordEach [] X.env))) := by rfl) :
    PE X (.Call (.Attribute o m apos) (e :: es) [] pos) (TEv G W F F2 (VF.ret md) (eMeth c0 fn eo ea)) := by
  obtain ⟨fa, fd, ps, hM, hF, hb⟩ := M.ex
  exact pe_imp (pe_methSd (pl := pl) he (by rw [g.K]; exact C.cls) (by rw [g.K]; exact hM) (g.fnOk hF) (g.room.mono hj) (by rw [g.K]; exact hb) (fun σ => passAt g.tk σ) ha hst hpl ht) (meth_core C hm hn hok (fun _ _ _ z => z) fun _ _ _ z => z)
theorem de_meth0 (g : Gd G N sc k W X) {j c0 : Nat} {x m : Str} {ks : List Str} {md : Bool} {fn : List D → Rs D} {f0 : VF} {eo : EvE} {o : Expr} {apos pos : Pos} {pl : Sem Bool} (C : Ccl G c0 x ks) (M : MetC G j c0 m md 0 fn) (he : PE X o (TEv G W F F1 f0 eo))
    (hj : j ≤ k := by decide) (hm : m ∉ ks := by decide) (hok : okArgs md [f0] = true := by rfl)
    (ht : eval (.Call (.Attribute o m apos) [] [] pos) X.env = (do
      let ov ← eval o X.env
      standAt apos.atName
      let (f, first) ← holding [ov] (getMethod ov m pl)
      callWith pos f first (backTo pos (starEach [] X.env)) (backToKw pos (keywordEach [] X.env))) := by rfl) :
    PE X (.Call (.Attribute o m apos) [] [] pos) (TEv G W F F1 (VF.ret md) (eMeth c0 fn eo aNil)) := by
  obtain ⟨fa, fd, ps, hM, hF, hb⟩ := M.ex
  exact pe_imp (pe_methSd0 (pl := pl) he (by rw [g.K]; exact C.cls) (by rw [g.K]; exact hM) (g.fnOk hF) (g.room.mono hj) (by rw [g.K]; exact hb) (fun σ => passAt g.tk σ) ht) (meth_core C hm rfl hok (fun _ _ _ z => z) fun σ H Q z => (by
    obtain ⟨c, en, own, ok, m⟩ := z
    exact m [] H own ok (Same.refl H) sub_refl ⟨rfl, rfl⟩))
/-! ### making -/
/-- what __init__ promises: the object at x -/
def spI (G : Gb) (c : Nat) (n : Nat) (fn : List D → Rs D) : Sp := fun vs H Q E => vs.length = n + 1 ∧ ∃ (x dx : Addr) (ws : List V) (ds : List D) (A0 : Addr → Prop), vs = .ref x :: ws ∧ H x = some (.ins (G.ca c) dx []) ∧ ¬ A0 x ∧ RL G A0 H ds ws ∧
  match fn ds with
  | .ok d => ∀ H', (∀ b o, b ≠ x → H b = some o → H' b = some o) → RO G (fun a => H a = none ∨ A0 a) H' d (.ref x) [x] → Q .non H'
  | .error (.raise e) => ∀ H', (∀ b o, b ≠ x → H b = some o → H' b = some o) → E (.ref (G.xa e)) none H'
  | .error .stuck => False
def endO : Option (Option D) → Rs D
  | some (some (.obj c l)) => .ok (.obj c l)
  | _ => .error .stuck
def endI : Rs Fl → Rs D
  | .ok (.nx en) => endO en[0]?
  | .ok _ => .error .stuck
  | .error e => .error e
def runI (c m : Nat) (st : EvS) (ds : List D) : Rs D := endI (st (some (.obj c []) :: (ds.map some ++ List.replicate m none)))
def F0i (n m : Nat) : List SF := .z :: (List.replicate n (.s false) ++ List.replicate m .n)
def Fr.ini (H : Hp) (A0 : Addr → Prop) (x : Addr) : Fr := ⟨H, A0, fun a => a = x, fun _ => none⟩
def Own.ini (x : Addr) : Own := ⟨fun i => if i = 0 then [x] else [], fun _ => False⟩
theorem ini_ok {A0 : Addr → Prop} {c0 n m : Nat} {N : List Str} {ds : List D} {ws : List V} {x dx : Addr} (hN : N.length = n + 1 + m) (hv : ws.length = n) (hx : H x = some (.ins (G.ca c0) dx [])) (hA : ¬ A0 x) (r : RL G A0 H ds ws) :
    Ok G (Fr.ini H A0 x) (F0i n m) (some (.obj c0 []) :: (ds.map some ++ List.replicate m none)) (Own.ini x) (L2.start N (.ref x :: ws)) H := by
  have hd : ds.length = n := by rw [← r.len]; exact hv
  have own0 : ∀ i a, a ∈ (Own.ini x).sl i → i = 0 ∧ a = x := fun i a h => by
    unfold Own.ini at h
    dsimp only at h
    split at h
    · exact ⟨by assumption, by simpa using h⟩
    · cases h
  have hl : (L2.start N (.ref x :: ws)).length = n + 1 + m := by
    unfold L2.start
    rw [List.length_append, List.length_map, List.length_replicate, hN, List.length_cons, hv]
    omega
  refine { lF := by rw [hl]; simp [F0i]; omega, lE := by rw [hl]; simp [hd]; omega, same := fun b o _ e => e, tr := fun a h => ?_, dj := fun i j a h1 h2 => ?_, dt := fun i a _ h => h, nt := fun a h => False.elim h, nw := fun i a h => ?_, sl := fun i => ?_, lk := fun a o h => (nomatch h) }
  · rw [show a = x from h, hx]; simp
  · rw [(own0 i a h1).1, (own0 j a h2).1]
  · obtain ⟨rfl, rfl⟩ := own0 i a h
    exact ⟨by rw [hx]; simp, .inr ⟨rfl, rfl⟩⟩
  · cases i with
    | zero =>
      unfold Slt
      refine ⟨.ref x, ?_, ⟨x, dx, [], rfl, rfl, hx, rfl, rfl⟩, fun a h => (own0 0 a h).2⟩
      unfold L2.start
      rfl
    | succ i =>
      unfold Slt
      rw [show (F0i n m)[i + 1]? = (List.replicate n (SF.s false) ++ List.replicate m SF.n)[i]? from rfl, show (some (D.obj c0 []) :: (ds.map some ++ List.replicate m none))[i + 1]? = (ds.map some ++ List.replicate m none)[i]? from rfl]
      by_cases hi : i < n
      · have e1 : (List.replicate n (SF.s false) ++ List.replicate m SF.n)[i]? = some (.s false) := by
          rw [List.getElem?_append_left (by simpa using hi), List.getElem?_replicate, if_pos hi]
        obtain ⟨d, hd'⟩ : ∃ d, ds[i]? = some d := ⟨ds[i]'(by omega), List.getElem?_eq_getElem (by omega)⟩
        obtain ⟨v, hx', rx⟩ := r.get hd'
        have e2 : (ds.map some ++ List.replicate m none)[i]? = some (some d) := by
          rw [List.getElem?_append_left (by simp; omega), List.getElem?_map, hd']
          rfl
        rw [e1, e2]
        refine ⟨v, ?_, R.up ⟨fun a xs h e => ⟨?_, e⟩, fun a xs h e => ⟨?_, e⟩, fun a C dx fs h e => ⟨?_, e⟩, fun a xs e => e, fun a xs e => e⟩ _ rx⟩
        · unfold L2.start
          rw [List.getElem?_append_left (by simp; omega), List.getElem?_map, show (V.ref x :: ws)[i + 1]? = ws[i]? from rfl, hx']
          rfl
        all_goals
          refine ⟨fun z => ?_, fun z => (nomatch z), .inr h⟩
          rcases z with ⟨j, z⟩ | z
          · exact hA (by rw [← (own0 j a z).2]; exact h)
          · exact z
      · have e1 : (List.replicate n (SF.s false) ++ List.replicate m SF.n)[i]? = some .n ∨ (List.replicate n (SF.s false) ++ List.replicate m SF.n)[i]? = none := by
          rw [List.getElem?_append_right (by simp; omega), List.getElem?_replicate]
          split
          · exact .inl rfl
          · exact .inr rfl
        rcases e1 with e | e <;> rw [e] <;> simp
theorem spI_len {c0 n : Nat} {fn : List D → Rs D} : ∀ vs H Q E, spI G c0 n fn vs H Q E → vs.length = n + 1 := fun _ _ _ _ h => h.1
theorem init_ok {x qual : Str} {params : Arguments} {body : List Stmt} {sc : Scope} {dvs : List V} {kws : List (Str × V)} {f : Addr} {fd : FuncData} {N ps : List Str} {k n m c0 : Nat} {md : Bool} {st : EvS} {Fo : List SF} (F : FunD G.K x qual params body sc dvs kws f fd) (S : FnScope N ps sc) (hp : ps.length = n + 1) (hN : N.length = n + 1 + m) (hFo : Fo[0]? = some .z)
    (hb : ∀ (X : Cx) (W : WX), Gs G N sc k W X → PSs X body (TSv G ⟨md, W, []⟩ (F0i n m) Fo st)) : FnOk G.P G.w G.K G.mg G.base (L2.CX G.P G.w) (k + 1) f fd ps (spI G c0 n (runI c0 m st)) := by
  refine F.ok S (fun vs H Q E h => by rw [hp]; exact h.1) fun cdv A outer s H vs Q E hr h => ⟨_, hb _ _ (gs_of S.nd S.kind hr), ?_⟩
  obtain ⟨hv, x, dx, ws, ds, A0, rfl, hx, hA, r, q⟩ := h
  refine ⟨Fr.ini H A0 x, _, Own.ini x, ini_ok hN (by simpa using hv) hx hA r, ?_⟩
  unfold runI at q
  revert q
  cases e : st (some (.obj c0 []) :: (ds.map some ++ List.replicate m none)) with
  | ok fl =>
    cases fl with
    | rt d => exact fun q => q.elim
    | ct en => exact fun q => q.elim
    | nx en =>
      intro q σ' H' own' ok'
      have e0 : endI (.ok (.nx en)) = endO en[0]? := rfl
      rw [e0] at q
      have h := ok'.sl 0
      unfold Slt at h
      cases he : en[0]? with
      | none => rw [he] at q; exact q.elim
      | some od =>
        cases od with
        | none => rw [he] at q; exact q.elim
        | some d0 =>
          cases d0 with
          | obj c l =>
            rw [he] at q
            rw [hFo, he] at h
            obtain ⟨v, _, hR, hS⟩ := h
            obtain ⟨a, dx', fs, rfl, eo, h1, h2, h3⟩ := id hR
            have ax : a = x := hS a (by rw [eo]; simp)
            subst ax
            rw [eo] at hR
            exact q H' (fun b o nb z => ok'.same b o nb z) (RO.up hR (Up.same (Same.refl H') fun b z => z.2.2) fun _ _ _ z => z)
          | _ => rw [he] at q; exact q.elim
  | error er =>
    cases er with
    | stuck => exact fun q => q.elim
    | raise e => exact fun q σ' H' sm => q H' fun b o nb z => sm b o nb z
/-- a class that may be made -/
structure MakC (G : Gb) (j : Nat) (c : Nat) (n : Nat) (fn : List D → Rs D) : Prop where
  ex : ∃ (f : Addr) (fd : FuncData) (ps : List Str), Mk G.K (G.ca c) f ∧ FnOk G.P G.w G.K G.mg G.base (L2.CX G.P G.w) j f fd ps (spI G c n fn) ∧ Binds G.K fd ps []
def tMakeS (C : Addr) (sp : Sp) (E : L2.St → XK) (t : TA) : TE := fun σ H Q => t σ H fun vs H1 => ∀ x dx, H1 x = none → H1 dx = none → dx ≠ x →
  sp (.ref x :: vs) (upd (upd H1 dx (.own x)) x (.ins C dx [])) (fun v H2 => v = .non ∧ Q (.ref x) H2) (E σ)
theorem run_makeSd {X : Cx} {CX : CXT} {k : Nat} {C f : Addr} {fd : FuncData} {ps : List Str} {sp : Sp} {E : L2.St → XK} {pins : List (Addr × Obj)} {σ : L2.St} {H : Hp} {s : Shared} {Q : VK} {us : List Value} {vs : List V} (M : Mk X.K C f) (F : FnOk X.prog X.w X.K X.mg X.base CX k f fd ps sp) (hr : Room (k + 1) X.A) (hb : Binds X.K fd ps [])
    (hx : PassesAt CX X σ (E σ)) (I : Inv X pins σ H s) (r : Vals vs us)
    (h : ∀ x dx, H x = none → H dx = none → dx ≠ x → sp (.ref x :: vs) (upd (upd H dx (.own x)) x (.ins C dx [])) (fun v H2 => v = .non ∧ Q (.ref x) H2) (E σ)) :
    wpAny (model X.prog X.w) X.A (call (.ref C) us) (EP X pins σ Q) X.xe s := by
  have hq := h (s.heap.objs.size + 1) s.heap.objs.size (I.hok.fresh (Nat.le_succ _)) (I.hok.fresh (Nat.le_refl _)) (Nat.ne_of_lt (Nat.lt_succ_self _))
  have I2 := Inv.made (C := C) I
  have r2 : Vals (V.ref (s.heap.objs.size + 1) :: vs) (Value.ref (s.heap.objs.size + 1) :: us) := .cons rfl r
  have hl : ((Value.ref (s.heap.objs.size + 1) :: us) ++ ([] : List Value)).length = ps.length := by
    have e := r2.length
    rw [F.len _ _ _ _ hq] at e
    simpa using e.symm
  have bz := hb { s with heap := (s.heap.push PySem.W.emptyDict).push (PySem.W.instObj C s.heap.objs.size) } (Value.ref (s.heap.objs.size + 1) :: us) I2.kIn hl
  rw [List.append_nil] at bz
  refine wpAny_call (make_map (f := f) I.kIn M.makes M.init (beq_iff_eq.mp M.fn) (codeAny_mono (F.run _ X.stack _ _ ⟨Value.ref (s.heap.objs.size + 1) :: us, []⟩ (Value.ref (s.heap.objs.size + 1) :: us) _ _ (E σ) (hr.make C us [])
    (I2.env0.make C us []) bz r2 hq) fun r s' hq' => ?_))
  cases r with
  | error e => exact hx pins _ _ e s' I2 hq'
  | ok fl =>
    cases fl with
    | ret u =>
      obtain ⟨v, H', I3, rv, ev, q3⟩ := I2.after hq'
      subst ev
      exact ⟨rv, ⟨V.ref (s.heap.objs.size + 1), H', I3, rfl, q3⟩⟩
    | next => exact False.elim hq'
    | brk => exact False.elim hq'
    | cont => exact False.elim hq'
theorem pe_makeSd {X : Cx} {CX : CXT} {k : Nat} {C f : Addr} {fd : FuncData} {ps : List Str} {sp : Sp} {E : L2.St → XK} {x : Str} {p pos : Pos} {e : Expr} {es : List Expr} {t : TA} (M : Mk X.K C f) (F : FnOk X.prog X.w X.K X.mg X.base CX k f fd ps sp) (hr : Room (k + 1) X.A) (hg : Gl X x) (hm : X.mg x = some (.ref C)) (hb : Binds X.K fd ps []) (hx : ∀ σ, PassesAt CX X σ (E σ))
    (ha : PA X (e :: es) t) (hdb : (x == ("__debug__" : Str)) = false := by decide) (he : starEach (e :: es) X.env = (false, eval e X.env) :: starEach es X.env := by rfl) (hpl : (backTo pos (starEach es X.env)).any (·.1) = false := by rfl) :
    PE X (.Call (.Name x p) (e :: es) [] pos) (tMakeS C sp E t) := by
  refine ⟨fun pins s σ H Q I h => ?_⟩
  refine wpAny_Call_Name_kw (ld_glob I hg hm ?_ hdb)
  refine PySem.W.callWith_K (h₀ := X.base) I.ok.mod.kin M.kp (thn (ha.run pos pins s σ H _ I h) fun us s1 ⟨vs, H1, I1, r, q⟩ => ⟨I1.kIn, ?_⟩) he hpl
  exact run_makeSd M F hr hb (hx σ) I1 r q
theorem make_core {c0 n : Nat} {fn : List D → Rs D} {fs : List VF} {ea : En → Rs (List D)} (hn : fs.length = n) (ha : nbL fs = true) :
    ∀ σ H Q, TEv G W F F1 (.uq false) (eCall fn ea) σ H Q → tMakeS (G.ca c0) (spI G c0 n fn) (WE W) (TAv G W F F1 fs ea) σ H Q := by
  rintro σ H Q ⟨c, en, own, ok, m⟩
  refine ⟨c, en, own, ok, m.bnd.imp fun ds _ q vs H1 own1 ok1 s1 b1 r1 => fun x dx hx hdx hne => ?_⟩
  have sN : Same H1 (upd (upd H1 dx (.own x)) x (.ins (G.ca c0) dx [])) := fun b o e => by
    rw [upd_ne (ne_of_none e hx), upd_ne (ne_of_none e hdx)]
    exact e
  refine ⟨by simp [r1.len.2, hn], x, dx, vs, ds, fun a => Av c (ow own1) false a ∧ a ≠ x, rfl, upd_same, fun z => z.2 rfl, ?_, ?_⟩
  · refine RL.up ⟨fun a xs h e => ⟨⟨h.undp, ne_of_none e hx⟩, sN _ _ e⟩, fun a xs h e => ⟨⟨h.undp, ?_⟩, rdS e sN⟩, fun a C dx fs h e => ⟨⟨h.undp, ne_of_none e hx⟩, sN _ _ e⟩, fun a xs e => rdS e sN, fun a xs e => sfS e sN⟩ _ (r1.rl ha)
    rcases e with e | ⟨o, e⟩ <;> exact ne_of_none e hx
  · cases e : fn ds with
    | error er =>
      rw [e] at q
      cases er with
      | stuck => exact q.elim
      | raise e => exact fun H' sm => q H' fun b o nb z => sm b o (ne_of_none (ok1.same b o nb z) hx) (sN _ _ (ok1.same b o nb z))
    | ok d =>
      rw [e] at q
      intro H' sm hR
      refine ⟨rfl, ?_⟩
      have s2 : Same H1 H' := fun b o e => sm b o (ne_of_none e hx) (sN _ _ e)
      have nx : H' x ≠ none := hR.at x (by simp)
      have h0 : ∀ a, a ∈ [x] → H1 a = none := fun a ha => by rw [show a = x by simpa using ha]; exact hx
      have ok2 := ok1.resL s2 h0 (fun a ha => by rw [show a = x by simpa using ha]; exact nx)
      refine q (.ref x) H' _ ok2 (s1.trans s2) (sub_trans b1 s1 (sub_resL h0)) ⟨[x], RO.up hR (Up.same (Same.refl H') fun a z => ?_) (fun _ _ _ z => z), fun a ha => .inr ha⟩
      have no : ow (own1.resL [x]) a → ow own1 a ∨ a = x := fun z => by
        rcases z with z | z | z
        · exact .inl (.inl z)
        · exact .inl (.inr z)
        · exact .inr (by simpa using z)
      rcases z with z | z
      · have ax : a ≠ x := fun e => by rw [e, upd_same] at z; cases z
        rw [upd_ne ax] at z
        have z1 : H1 a = none := by
          by_cases ad : a = dx
          · rw [ad]; exact hdx
          · rw [upd_ne ad] at z; exact z
        exact ⟨fun y => (no y).elim (fun y => ok1.trk y z1) ax, fun y => (nomatch y), .inl (ok1.free z1)⟩
      · exact ⟨fun y => (no y).elim z.1.1 z.2, fun y => (nomatch y), z.1.2.2⟩
theorem de_make (g : Gd G N sc k W X) {j c0 n : Nat} {x : Str} {ks : List Str} {fn : List D → Rs D} {fs : List VF} {ea : En → Rs (List D)} {p pos : Pos} {e : Expr} {es : List Expr} (C : Ccl G c0 x ks) (M : MakC G j c0 n fn) (ha : PA X (e :: es) (TAv G W F F1 fs ea))
    (hj : j + 1 ≤ k := by decide) (hn : fs.length = n := by rfl) (ho : nbL fs = true := by rfl) (hx : glbB sc x = true := by rfl) (hnm : nameB x = true := by rfl)
    (he : starEach (e :: es) X.env = (false, eval e X.env) :: starEach es X.env := by rfl) (hpl : (backTo pos (starEach es X.env)).any (·.1) = false := by rfl) : PE X (.Call (.Name x p) (e :: es) [] pos) (TEv G W F F1 (.uq false) (eCall fn ea)) := by
  obtain ⟨f, fd, ps, hM, hF, hb⟩ := M.ex
  exact pe_imp (pe_makeSd (by rw [g.K]; exact hM) (g.fnOk hF) (g.room.mono hj) (glbB_gl hx g.sc) (by rw [g.mg]; exact C.gl) (by rw [g.K]; exact hb) (fun σ => passAt g.tk σ) ha (nameB_d hnm).1 he hpl) (make_core hn ho)
/-! ### self.f = e -/
theorem Ok.wrz (ok : Ok G c F en own σ H) {i : Nat} {p : Addr} {o o' : HO} {d' : D} (hf : F[i]? = some .z) (hp : own.sl i = [p]) (hH : H p = some o) (w : Wr o) (hσ : σ[i]? = some (some (.ref p))) (hS : c.S p)
    (new : RO G (Av c (ow own) false) (upd H p o') d' (.ref p) [p]) : Ok G c F (en.set i (some d')) own σ (upd H p o') := by
  have hi : i < F.length := (List.getElem?_eq_some_iff.mp hf).1
  have hpi : p ∈ own.sl i := by rw [hp]; simp
  have hpo : ow own p := .inl ⟨i, hpi⟩
  have nn : ∀ {a}, H a ≠ none → upd H p o' a ≠ none := fun {a} h => by
    by_cases e : a = p
    · rw [e, upd_same]; simp
    · rw [upd_ne e]; exact h
  refine { lF := ok.lF, lE := by simpa using ok.lE, same := fun b x nb e => ?_, tr := fun a h => nn (ok.tr a h), dj := ok.dj, dt := ok.dt, nt := fun a h => ⟨nn (ok.nt a h).1, (ok.nt a h).2⟩, nw := fun j a h => ⟨nn (ok.nw j a h).1, (ok.nw j a h).2⟩, sl := fun j => ?_, lk := fun a x h => ?_ }
  · rw [upd_ne (fun e' => nb (by rw [e']; exact hS))]
    exact ok.same b x nb e
  · by_cases e : j = i
    · subst e
      unfold Slt
      rw [hf, List.getElem?_set_self (by rw [ok.lE, ← ok.lF]; exact hi)]
      refine ⟨.ref p, hσ, ?_⟩
      rw [hp]
      exact ⟨new, fun a ha => by rw [show a = p by simpa using ha]; exact hS⟩
    · have h := ok.sl j
      unfold Slt at h ⊢
      rw [List.getElem?_set_ne (fun z => e z.symm)]
      have na : ∀ b, ¬ Av c (ow own) b p := fun b z => z.1 hpo
      have pj : ∀ a x, a ∈ own.sl j → H a = some x → upd H p o' a = some x := fun a x ha hx => by
        rw [upd_ne (fun e' => e (ok.dj j i a ha (by rw [e']; exact hpi)))]
        exact hx
      split
      · rename_i dp' d hf' he; rw [hf', he] at h; obtain ⟨x, h1, h2⟩ := h; exact ⟨x, h1, R.up (Up.write hH w (na _)) _ h2⟩
      · rename_i dp' d hf' he; rw [hf', he] at h; obtain ⟨x, h1, h2⟩ := h; exact ⟨x, h1, RO.up h2 (Up.write hH w (na _)) pj⟩
      · rename_i d hf' he; rw [hf', he] at h; obtain ⟨x, h1, h2, h3⟩ := h; exact ⟨x, h1, RO.up h2 (Up.write hH w (na _)) pj, h3⟩
      · rename_i hf'; rw [hf'] at h; simpa using h
      · trivial
  · obtain ⟨q1, q2⟩ := ok.lk a x h
    have ne : a ≠ p := fun e => by
      subst e
      rw [hH] at q1
      cases q1
      rcases q2 with q2 | q2
      · cases o <;> first | exact w.elim | exact q2.elim
      · exact q2 hpo
    exact ⟨by rw [upd_ne ne]; exact q1, q2⟩
def setD (l : List D) (j : Nat) (d : D) : List D := if j = l.length then l ++ [d] else l.set j d
def sSetf (i c j : Nat) (ev : EvE) : EvS := fun en => bnd (ev en) fun d => match en[i]? with
  | some (some (.obj c' l)) => if c' = c ∧ j ≤ l.length then .ok (.nx (en.set i (some (.obj c (setD l j d))))) else .error .stuck
  | _ => .error .stuck
theorem ds_setf (g : Gv G N sc X) {c0 j : Nat} {x f : Str} {ks : List Str} (C : Ccl G c0 x ks) (i : Nat) {y : Str} {px apos pos : Pos} {e : Expr} {ev : EvE} {fv : VF} (he : PE X e (TEv G S.W F F1 fv ev)) (hN : N[i]? = some y := by rfl) (hv : visB sc y = true := by rfl) (hx : nameB y = true := by rfl) (hf : F1[i]? = some .z := by rfl) (hn : fv.nb = true := by rfl) (hj : ks[j]? = some f := by rfl) (hk : ks.length < 1000 := by decide)
    (hs : swapsWith e (some (.Attribute (.Name y px) f apos)) pos.line X.env = pure false := by rfl) : PS X (.Assign [.Attribute (.Name y px) f apos] e pos) (TSv G S F F1 (sSetf i c0 j ev)) := by
  obtain ⟨h1, h2, _⟩ := nameB_d hx
  refine ps_imp (ps_fld (pe_var (i := i) (by rw [g.nN]; exact hN) (visB_vis hv g.sc) h1 h2) he hs) ?_
  rintro D σ H ⟨c, en, own, ok, m⟩
  refine ⟨c, en, own, ok, m.bnd.e.imp fun d _ q v H1 own1 ok1 s1 b1 r1 => ?_⟩
  obtain ⟨own2, ok2, k2, a2⟩ := r1.share ok1 hn
  split at q
  · rename_i c' l hen
    split at q
    · rename_i hc
      obtain ⟨rfl, hjl⟩ := hc
      have hsl := ok2.sl i
      unfold Slt at hsl
      rw [hf, hen] at hsl
      obtain ⟨xv, hσ, hR, hS⟩ := hsl
      obtain ⟨p, dx, fs, rfl, eo, e1, e2, e3⟩ := id hR
      rw [C.cf] at e2
      have hlen : fs.length = l.length := by rw [← e3.len]; simp
      have hjk : j < ks.length := (List.getElem?_eq_some_iff.mp hj).1
      have nA : ∀ b, ¬ Av c (ow own2) b p := fun b z => z.1 (.inl ⟨i, by rw [eo]; simp⟩)
      refine ⟨.ref p, hσ, p, G.ca c', dx, fs, rfl, e1, by rw [g.K]; exact C.cls, by rw [g.K]; exact C.na f (List.mem_of_getElem? hj), ?_, q _ _ own2 (ok2.wrz hf eo e1 trivial hσ (hS p (by rw [eo]; simp)) ?_)⟩
      · have := congrArg List.length e2
        simp only [List.length_map, List.length_take] at this
        omega
      · have ev2 : R G (Av c (ow own2) false) H1 d v := R.up (Up.sub (fun _ h => h) (by cases fv.dp <;> rfl)) _ a2
        refine ⟨p, dx, putF f v fs, rfl, rfl, upd_same, ?_, ?_⟩
        · rw [C.cf]
          unfold setD
          by_cases hjq : j = l.length
          · rw [if_pos hjq, putF_new]
            · rw [List.map_append, e2, List.length_append, hjq.symm]
              rw [List.map_cons, List.map_nil]
              rw [show j + [d].length = j + 1 from rfl, List.take_add_one]
              rw [hj]
              rfl
            · rw [e2]
              intro hmem
              have : f ∈ ks.take j := by rw [hjq]; exact hmem
              obtain ⟨t, ht, et⟩ := List.mem_iff_getElem.mp this
              rw [List.length_take] at ht
              have h3 : ks[t]? = some f := by
                rw [List.getElem?_eq_getElem (by omega)]
                rw [List.getElem_take] at et
                rw [et]
              have h4 := (List.getElem?_inj (by omega) C.nd).mp (h3.trans hj.symm)
              omega
          · rw [if_neg hjq, List.length_set]
            have hjl2 : j < l.length := by omega
            have q1 := (putF_at (f := f) (v := v) (fs := fs) (j := j) (by rw [e2]; exact C.nd.sublist (List.take_sublist _ _)) (by rw [e2, List.getElem?_take_of_lt hjl2]; exact hj)).1
            rw [q1, e2]
        · unfold setD
          by_cases hjq : j = l.length
          · rw [if_pos hjq, putF_new]
            · rw [List.map_append]
              exact RL.app (RL.up (Up.write e1 trivial (nA _)) _ e3) (RL.cons (R.up (Up.write e1 trivial (nA _)) _ ev2) RL.nil)
            · rw [e2]
              intro hmem
              have : f ∈ ks.take j := by rw [hjq]; exact hmem
              obtain ⟨t, ht, et⟩ := List.mem_iff_getElem.mp this
              rw [List.length_take] at ht
              have h3 : ks[t]? = some f := by
                rw [List.getElem?_eq_getElem (by omega)]
                rw [List.getElem_take] at et
                rw [et]
              have h4 := (List.getElem?_inj (by omega) C.nd).mp (h3.trans hj.symm)
              omega
          · rw [if_neg hjq]
            have hjl2 : j < l.length := by omega
            have q1 := (putF_at (f := f) (v := v) (fs := fs) (j := j) (by rw [e2]; exact C.nd.sublist (List.take_sublist _ _)) (by rw [e2, List.getElem?_take_of_lt hjl2]; exact hj)).2
            rw [q1]
            exact RL.set j (RL.up (Up.write e1 trivial (nA _)) _ e3) (R.up (Up.write e1 trivial (nA _)) _ ev2)
    · exact q.elim
  · exact q.elim
end
end Pi
namespace Pi
open PySem PySem.Spec PyProof.Rows L2
section
variable {G : Gb} {S : Se} {W : WX} {N : List Str} {sc scope : Scope} {k : Nat} {X : Cx} {F F1 F2 F3 F4 Fh : List SF} {Fo : List SF} {f f1 f2 : VF} {c : Fr} {en : En} {own own0 : Own} {σ : L2.St} {H H' H0 H1 : Hp}
/-! ### x[i], x[j] = two values -/
theorem sw_sub {a b a' b' e : Expr} {p p' tp : Pos} {n : Nat} {env : Env} : swappedStores [.Tuple [.Subscript a b p, .Subscript a' b' p'] n tp] e env = pure none := by
  unfold swappedStores
  cases e <;> first | rfl | skip
  rename_i vs m q
  simp only [List.filterMap_cons_none, List.filterMap_nil, List.length_cons, List.length_nil]
  split
  · rfl
  · split
    · rfl
    · rfl
def subL (i : Nat) (ek : EvE) (d : D) (en : En) : Rs En := bnd (getL i en) fun l => bnd (ek en) fun kd => match kd with
  | .int j => match ixN l.length j with
    | some n => .ok (en.set i (some (.lst (l.set n d))))
    | none => .error .stuck
  | _ => .error .stuck
def sSw (i : Nat) (ev ek ek2 : EvE) : EvS := fun en => bnd (ev en) fun t => match t with
  | .tup [d1, d2] => bnd (subL i ek d1 en) fun en1 => bnd (subL i ek2 d2 en1) fun en2 => .ok (.nx en2)
  | _ => .error .stuck
theorem sub_step {i : Nat} {dp dv : Bool} {d : D} {v : V} {ek : EvE} {ti : TE} {Q : L2.St → Hp → Prop} (ok : Ok G c F en own σ H) (hf : F[i]? = some (.o dp)) (hv : R G (Av c (ow own) dv) H d v) (ht : ∀ σ H Q, TEv G W F F f2 ek σ H Q → ti σ H Q)
    (hm : MtS G W c (subL i ek d en) fun en' => ∀ H' own', Ok G c (F.set i (.o (dp && dv))) en' own' σ H' → (∀ d' v' e, R G (Av c (ow own) e) H d' v' → R G (Av c (ow own') e) H' d' v') → Q σ H') :
    gSub (tVar i) ti (fun o k v H Q => ∃ p xs j n, o = .ref p ∧ k = .int j ∧ H p = some (.lst xs) ∧ ixN xs.length j = some n ∧ Q (upd H p (.lst (xs.set n v)))) v σ H Q := by
  obtain ⟨l, hl, hm⟩ := getL_ok hm.bnd
  obtain ⟨p, xs, e1, e2, e3, e4⟩ := ok.ownL hf hl
  refine ⟨.ref p, e1, ht _ _ _ ⟨c, en, own, ok, hm.bnd.e.imp fun kd hkd q v2 H2 own2 ok2 s2 b2 r2 => ?_⟩⟩
  clear hkd
  obtain ⟨p', xs', e1', e2', e3', e4'⟩ := ok2.ownL hf hl
  have ep := sig_inj e1 e1'
  subst ep
  cases kd <;> first | exact q.elim | skip
  rename_i j
  dsimp only at q
  split at q
  · rename_i n hj
    have nA : ∀ b, ¬ Av c (ow own2) b p := fun b z => z.1 (.inl ⟨i, by rw [e2']; simp⟩)
    refine ⟨p, xs', j, n, rfl, r2.int, e3', by rw [e4'.len]; exact hj, q _ own2 (ok2.wrL (dp' := dp && dv) hf e2' e3' e1' (RL.set n ?_ ?_)) fun d' v' e h => R.up (Up.write e3' trivial (nA e)) _ (R.up (Up.grow s2 b2 (by cases e <;> rfl)) _ h)⟩
    · exact RL.up (Up.sub (fun _ h => h) (by cases dp <;> cases dv <;> rfl)) _ e4'
    · exact R.up (Up.grow s2 b2 (by cases dp <;> cases dv <;> rfl)) _ hv
  · exact q.elim
theorem ds_swap (g : Gs G N sc k S.W X) (i : Nat) {x : Str} {e ix ix2 : Expr} {px px2 sp sp2 tp pos : Pos} {n : Nat} {ev ek ek2 : EvE} {dp : Bool} (he : PE X e (TEv G S.W F F1 f ev)) (hi : PE X ix (TEv G S.W F1 F1 f1 ek)) (hi2 : PE X ix2 (TEv G S.W (F1.set i (.o (dp && f.dp))) (F1.set i (.o (dp && f.dp))) f2 ek2)) (hN : N[i]? = some x := by rfl) (hv : visB sc x = true := by rfl) (hx : nameB x = true := by rfl) (hf : F1[i]? = some (.o dp) := by rfl)
    (hs : swapsWithSole [.Tuple [.Subscript (.Name x px) ix sp, .Subscript (.Name x px2) ix2 sp2] n tp] e pos.line X.env = pure false := by rfl)
    (ha : ∀ v, assign (.Subscript (.Name x px) ix sp) X.env v = (do
      let ov ← holding [v] (eval (.Name x px) X.env)
      let iv ← holding [v, ov] (eval ix X.env)
      standAt sp
      holding [v, ov, iv] (setItem ov iv v)
      release [v, ov, iv] []) := by intro _; rfl)
    (ha2 : ∀ v, assign (.Subscript (.Name x px2) ix2 sp2) X.env v = (do
      let ov ← holding [v] (eval (.Name x px2) X.env)
      let iv ← holding [v, ov] (eval ix2 X.env)
      standAt sp2
      holding [v, ov, iv] (setItem ov iv v)
      release [v, ov, iv] []) := by intro _; rfl)
    (hl1 : (assignEach [.Subscript (.Name x px) ix sp, .Subscript (.Name x px2) ix2 sp2] X.env).length = 2 := by rfl) (hl2 : (assignEach [.Subscript (.Name x px) ix sp, .Subscript (.Name x px2) ix2 sp2] X.env).findIdx? (·.1) = none := by rfl)
    (hc1 : (assignEach [.Subscript (.Name x px) ix sp, .Subscript (.Name x px2) ix2 sp2] X.env).map (·.2) = assign (.Subscript (.Name x px) ix sp) X.env :: (assignEach [.Subscript (.Name x px2) ix2 sp2] X.env).map (·.2) := by rfl) (hc2 : (assignEach [.Subscript (.Name x px2) ix2 sp2] X.env).map (·.2) = assign (.Subscript (.Name x px2) ix2 sp2) X.env :: (assignEach [] X.env).map (·.2) := by rfl) :
    PS X (.Assign [.Tuple [.Subscript (.Name x px) ix sp, .Subscript (.Name x px2) ix2 sp2] n tp] e pos) (TSv G S F (F1.set i (.o (dp && f.dp))) (sSw i ev ek ek2)) := by
  obtain ⟨h1, h2, _⟩ := nameB_d hx
  have pv : ∀ p, PE X (.Name x p) (tVar i) := fun p => pe_var (i := i) (by rw [g.g.nN]; exact hN) (visB_vis hv g.g.sc) h1 h2
  refine ps_imp (ps_asg he (pg_tup (n := 2) g.g.calm (pgs_cons (pg_sub (pv px) hi set_list ha) (pgs_cons (pg_sub (pv px2) hi2 set_list ha2) pgs_nil hc2) hc1) hl1 hl2) hs sw_sub rfl) ?_
  rintro D σ H ⟨c, en, own, ok, m⟩
  refine ⟨c, en, own, ok, m.bnd.e.imp fun d hd0 q v H1 own1 ok1 s1 b1 r1 => ?_⟩
  clear hd0
  match d, q, r1 with
  | .tup [d1, d2], q, r1 =>
    obtain ⟨a, xs, rfl, hq, v1, r, rfl, ra, v2, r', rfl, rb, rr⟩ := r1.b
    obtain rfl : r' = [] := rr
    have F2i : (F1.set i (SF.o (dp && f.dp)))[i]? = some (.o (dp && f.dp)) := List.getElem?_set_self (List.getElem?_eq_some_iff.mp hf).1
    refine ⟨a, _, rfl, by rw [g.g.K]; exact hq, rfl, v1, [v2], rfl, sub_step ok1 hf ra (fun _ _ _ z => z) ((MtS.bnd q).imp fun en1 _ q H2 own2 ok2 k2 => ?_)⟩
    refine ⟨v2, [], rfl, sub_step (F := F1.set i (.o (dp && f.dp))) ok2 F2i (k2 _ _ _ rb) (fun _ _ _ z => z) ((MtS.bnd q).imp fun en2 _ q H3 own3 ok3 _ => ⟨rfl, ?_⟩)⟩
    rw [List.set_set, Bool.and_assoc, Bool.and_self] at ok3
    exact q σ H3 own3 ok3
/-! ### x.clear(), x.reverse() -/
def sClr (i : Nat) : EvS := fun en => bnd (getL i en) fun _ => .ok (.nx (en.set i (some (.lst []))))
def sRev (i : Nat) : EvS := fun en => bnd (getL i en) fun l => .ok (.nx (en.set i (some (.lst l.reverse))))
theorem ds_clr (g : Gv G N sc X) (i : Nat) {x : Str} {px apos cpos pos : Pos} {dp : Bool} (hN : N[i]? = some x := by rfl) (hv : visB sc x = true := by rfl) (hx : nameB x = true := by rfl) (hf : F[i]? = some (.o dp) := by rfl) (hline : (apos.endLine == cpos.line) = true := by rfl) :
    PS X (.Expr (.Call (.Attribute (.Name x px) "clear" apos) [] [] cpos) pos) (TSv G S F (F.set i (.o true)) (sClr i)) := by
  obtain ⟨h1, h2, _⟩ := nameB_d hx
  refine ps_imp (ps_expr (pe_bm0 PySem.F.plainAttrs_list PySem.F.slot_list_clear PySem.F.type_list_clear mt_clear (pe_var (i := i) (by rw [g.nN]; exact hN) (visB_vis hv g.sc) h1 h2) rfl hline) rfl) ?_
  rintro D σ H ⟨c, en, own, ok, m⟩
  obtain ⟨l, hl, m⟩ := getL_ok m.bnd
  obtain ⟨p, xs, e1, e2, e3, e4⟩ := ok.ownL hf hl
  exact ⟨.ref p, e1, .inl ⟨rfl, xs, SqL.of e3⟩, p, xs, rfl, rfl, e3, m σ _ own (ok.wrL (dp' := true) hf e2 e3 e1 RL.nil)⟩
theorem ds_rev (g : Gv G N sc X) (i : Nat) {x : Str} {px apos cpos pos : Pos} {dp : Bool} (hN : N[i]? = some x := by rfl) (hv : visB sc x = true := by rfl) (hx : nameB x = true := by rfl) (hf : F[i]? = some (.o dp) := by rfl) (hline : (apos.endLine == cpos.line) = true := by rfl) :
    PS X (.Expr (.Call (.Attribute (.Name x px) "reverse" apos) [] [] cpos) pos) (TSv G S F (F.set i (.o dp)) (sRev i)) := by
  obtain ⟨h1, h2, _⟩ := nameB_d hx
  refine ps_imp (ps_expr (pe_bm0 PySem.F.plainAttrs_list PySem.F.slot_list_reverse PySem.F.type_list_reverse mt_reverse (pe_var (i := i) (by rw [g.nN]; exact hN) (visB_vis hv g.sc) h1 h2) rfl hline) rfl) ?_
  rintro D σ H ⟨c, en, own, ok, m⟩
  obtain ⟨l, hl, m⟩ := getL_ok m.bnd
  obtain ⟨p, xs, e1, e2, e3, e4⟩ := ok.ownL hf hl
  exact ⟨.ref p, e1, .inl ⟨rfl, xs, SqL.of e3⟩, p, xs, rfl, rfl, e3, m σ _ own (ok.wrL (dp' := dp) hf e2 e3 e1 e4.rev)⟩
/-! ### try, except without a name -/
def sTry0 (isC : Nat → Bool) (bx : En → Rs Unit) (hd : EvS) : EvS := fun en => match bx en with
  | .ok _ => .ok (.nx en)
  | .error (.raise e) => if isC e = true then (match hd en with
    | .ok (.nx en') => .ok (.nx en')
    | .ok (.rt d) => .ok (.rt d)
    | _ => .error .stuck) else .error (.raise e)
  | .error .stuck => .error .stuck
theorem ds_try0 (g : Gs G N sc k S.W X) {xs : List Str} {cs : List Cl} (K : Xk G xs cs) (y : Cl) {np pos pos' : Pos} {body suite : List Stmt} {b₀ : Stmt} {bx : En → Rs Unit} {hd : EvS}
    (hb : ∀ (X' : Cx) (W' : WX), Gs G N sc k W' X' → PSs X' body (TXv G W' (Fsh F) bx))
    (hsu : ∀ (X' : Cx), Gv G N sc X' → (∀ x, X'.fn x = true) → PSs X' (b₀ :: suite) (TSv G ⟨S.md, fun _ _ _ _ => False, []⟩ F Fo hd))
    (hw : wkL F Fo = true := by rfl) (hy : y ∈ cs := by decide) (hx2 : glbB sc y.nm = true := by rfl) (hn : nameB y.nm = true := by rfl) :
    PS X (.Try body [.ExceptHandler (some (.Name y.nm np)) none (b₀ :: suite) pos'] [] [] pos) (TSv G S F Fo (sTry0 (fun e => isxS (xnm xs e) y) bx hd)) := by
  obtain ⟨n1, n2, n3⟩ := nameB_d hn
  have nmz : Names X y.nm (y.u G) := by
    refine ⟨glbB_gl hx2 g.g.sc, n1, ?_⟩
    cases y with
    | own x => exact .inl (by rw [g.g.mg]; exact K.gl x hy)
    | ty m => exact .inr ⟨by rw [g.g.mg]; exact (K.ty m hy).1, (K.ty m hy).2, n3⟩
  refine ps_imp (ps_try_only (c := y.u G) (tb := fun W => TXv G W (Fsh F) bx) (ts := fun a cls d D σ H => TSv G ⟨S.md, fun _ _ _ _ => False, []⟩ F Fo hd D σ H) (Wout := S.W) g.stk g.frm nmz g.g.tk
    (fun W pn xe tk po => hb _ _ (g.tr tk po)) (fun a oe cls d pn hz hf => hsu _ g.su g.fn)) ?_
  rintro D σ H ⟨c, en, own, ok, m⟩
  refine ⟨Fr.new H fun _ => True, en, Own.new, try_ok ok, ?_⟩
  unfold sTry0 at m
  cases q : bx en with
  | ok u =>
    rw [q] at m
    intro H' s
    obtain ⟨own', ok', _⟩ := (ok.grow s).weak hw
    exact m σ H' own' ok'
  | error er =>
    rw [q] at m
    cases er with
    | stuck => exact m
    | raise e =>
      intro H' sm
      have s : Same H H' := fun b o z => sm b o id z
      refine ⟨isxS (xnm xs e) y, by rw [g.g.K]; exact K.exm e y hy, fun hb a na => ⟨c, en, own, ok.grow s, ?_⟩, fun hb => ?_⟩
      · have m2 : MtS G S.W c (match hd en with
          | .ok (.nx en') => .ok (.nx en')
          | .ok (.rt d) => .ok (.rt d)
          | _ => .error .stuck) (Aft G S c Fo D) := by
          have m3 := m
          dsimp only at m3
          rw [if_pos hb] at m3
          exact m3
        cases q2 : hd en with
        | error er => rw [q2] at m2; exact m2.elim
        | ok fl =>
          rw [q2] at m2
          cases fl with
          | ct en' => exact m2.elim
          | rt d => exact m2
          | nx en' => exact m2
      · have m3 := m
        dsimp only at m3
        rw [if_neg (by rw [hb]; decide)] at m3
        exact m3 σ H' fun b o nb z => s _ _ (ok.same b o nb z)
/-! ### flags that say less, ahead of an expression -/
theorem de_pre {e : Expr} {ev : EvE} (h : PE X e (TEv G W F1 F2 f ev)) (w : wkL F F1 = true := by rfl) : PE X e (TEv G W F F2 f ev) := by
  refine pe_imp h ?_
  rintro σ H Q ⟨c, en, own, ok, m⟩
  obtain ⟨own2, ok2, sb, _⟩ := ok.weak w
  exact ⟨c, en, own2, ok2, m.imp fun d _ q v H' own' ok' s' b' r' => q v H' own' ok' s' (fun a h => (b' a h).imp (sb a) id) r'⟩
theorem dt_pre {e : Expr} {ev : En → Rs Bool} (h : PT X e (TTv G W F1 F2 ev)) (w : wkL F F1 = true := by rfl) : PT X e (TTv G W F F2 ev) := by
  refine pt_imp h ?_
  rintro σ H Q ⟨c, en, own, ok, m⟩
  obtain ⟨own2, ok2, sb, _⟩ := ok.weak w
  exact ⟨c, en, own2, ok2, m.imp fun d _ q H' own' ok' s' b' => q H' own' ok' s' (fun a h => (b' a h).imp (sb a) id)⟩
end
end Pi
namespace Pi
open PySem PySem.Spec PyProof.Rows L2
/-! ### dicts: keys -/
def kD : Key → D
  | .inl i => .int i
  | .inr x => .str x
def dK : D → Option Key
  | .int i => some (.inl i)
  | .str x => some (.inr x)
  | _ => none
theorem dK_v {G : Gb} {A : Addr → Prop} {H : Hp} {d : D} {k : Key} {v : V} (e : dK d = some k) (h : RB G A H d v) : v = kV k := by
  cases d <;> first | (cases e; done) | skip
  · cases e; exact h
  · cases e; exact h
theorem kD_r {G : Gb} {A : Addr → Prop} {H : Hp} (k : Key) : R G A H (kD k) (kV k) := by cases k <;> rfl
theorem kDs_r {G : Gb} {A : Addr → Prop} {H : Hp} : ∀ ks : List Key, RL G A H (ks.map kD) (ks.map kV)
  | [] => rfl
  | k :: ks => RL.cons (kD_r k) (kDs_r ks)
/-- what stands under k -/
def dGet : List Key → List D → Key → Option D
  | x :: ks, d :: l, k => if x = k then some d else dGet ks l k
  | _, _, _ => none
def dSet : List Key → List D → Key → D → List D
  | x :: ks, d :: l, k, v => (if x = k then v else d) :: dSet ks l k v
  | _, _, _, _ => []
def kIn (ks : List Key) (k : Key) : Bool := ks.any fun x => decide (x = k)
/-- d[k] = v -/
def dPut (ks : List Key) (l : List D) (k : Key) (v : D) : List Key × List D := if kIn ks k = true then (ks, dSet ks l k v) else (ks ++ [k], l ++ [v])
section
variable {G : Gb} {A : Addr → Prop} {H : Hp}
theorem dGet_r : ∀ {kvs : List (Key × V)} {l : List D} {k : Key} {d : D}, RL G A H l (kvs.map (·.2)) → dGet (kvs.map (·.1)) l k = some d → ∃ v, valV kvs k = some v ∧ R G A H d v
  | [], l, k, d, _, e => by cases e
  | p :: kvs, [], k, d, h, e => by cases h
  | p :: kvs, a :: l, k, d, h, e => by
    obtain ⟨x, r, e1, h1, h2⟩ := h
    cases e1
    simp only [List.map_cons, dGet] at e
    by_cases hk : p.1 = k
    · rw [if_pos hk] at e
      cases e
      exact ⟨p.2, valV_pos hk, h1⟩
    · rw [if_neg hk] at e
      rw [valV_neg hk]
      exact dGet_r h2 e
theorem kIn_cons (x : Key) (ks : List Key) (k : Key) : kIn (x :: ks) k = (decide (x = k) || kIn ks k) := rfl
theorem dGet_n : ∀ {kvs : List (Key × V)} {k : Key}, (valV kvs k).isSome = kIn (kvs.map (·.1)) k
  | [], k => by rfl
  | p :: kvs, k => by
    rw [List.map_cons, kIn_cons]
    by_cases hk : p.1 = k
    · rw [valV_pos hk]
      simp [hk]
    · rw [valV_neg hk, dGet_n]
      simp [hk]
theorem dSet_r : ∀ {kvs : List (Key × V)} {l : List D} {k : Key} {d : D} {v : V}, RL G A H l (kvs.map (·.2)) → R G A H d v → RL G A H (dSet (kvs.map (·.1)) l k d) ((kvs.map fun kv => if kv.1 = k then (kv.1, v) else kv).map (·.2))
  | [], l, k, d, v, h, _ => rfl
  | p :: kvs, [], k, d, v, h, _ => by cases h
  | p :: kvs, a :: l, k, d, v, h, hv => by
    obtain ⟨x, r, e1, h1, h2⟩ := h
    cases e1
    simp only [List.map_cons, dSet]
    refine RL.cons ?_ (dSet_r h2 hv)
    by_cases hk : p.1 = k
    · rw [if_pos hk, if_pos hk]; exact hv
    · rw [if_neg hk, if_neg hk]; exact h1
theorem putK_r {kvs : List (Key × V)} {l : List D} {k : Key} {d : D} {v : V} (h : RL G A H l (kvs.map (·.2))) (hv : R G A H d v) : (putK kvs k v).map (·.1) = (dPut (kvs.map (·.1)) l k d).1 ∧ RL G A H (dPut (kvs.map (·.1)) l k d).2 ((putK kvs k v).map (·.2)) := by
  have ea : (kvs.any fun kv => decide (kv.1 = k)) = kIn (kvs.map (·.1)) k := by unfold kIn; rw [List.any_map]; rfl
  unfold putK dPut
  rw [ea]
  by_cases hk : kIn (kvs.map (·.1)) k = true
  · rw [if_pos hk, if_pos hk]
    refine ⟨?_, dSet_r h hv⟩
    rw [List.map_map]
    apply List.map_congr_left
    intro p _
    by_cases e : p.1 = k <;> simp [e]
  · rw [if_neg hk, if_neg hk]
    exact ⟨by simp, by rw [List.map_append]; exact RL.app h (RL.cons hv RL.nil)⟩
end
section
variable {G : Gb} {S : Se} {W : WX} {N : List Str} {sc scope : Scope} {k : Nat} {X : Cx} {F F1 F2 F3 F4 Fh : List SF} {Fo : List SF} {f f1 f2 : VF} {c : Fr} {en : En} {own own0 : Own} {σ : L2.St} {H H' H0 : Hp}
/-! ### d[k], k in d -/
def oDG : D → D → Option D
  | .dct ks l, y => (dK y).bind fun k => dGet ks l k
  | _, _ => none
def rDG : R2 := fun x y H Q => ∃ a v, x = .ref a ∧ DGet H a y (some v) ∧ Q v H
theorem ops_dg : OpS G (fun p _ => .sh p) rDG oDG := by
  intro c O H x y z v1 v2 p1 p2 Q h1 h2 e q
  cases x <;> first | (cases e; done) | skip
  rename_i ks l
  obtain ⟨k, e1, e2⟩ := Option.bind_eq_some_iff.mp e
  obtain ⟨a, kvs, rfl, r1, rfl, rl⟩ := h1
  obtain ⟨v, ev, rv⟩ := dGet_r rl e2
  exact ⟨a, v, rfl, .inl ⟨kvs, k, r1, dK_v e1 h2, ev.symm⟩, q.old v rv⟩
theorem de_dg (g : Gv G N sc X) {a b : Expr} {pos : Pos} {ea eb : EvE} (ha : PE X a (TEv G W F F1 f1 ea)) (hb : PE X b (TEv G W F1 F2 f2 eb)) (hs : NoSl b := by exact fun _ _ => rfl) :
    PE X (.Subscript a b pos) (TEv G W F F2 (.sh f1.dp) (eB2 oDG ea eb)) :=
  pe_imp (pe_dget (by have := g.un; omega) ha hb hs) (OpS.core ops_dg (fun _ _ _ z => z) fun _ _ _ z => z)
def oDI (neg : Bool) : D → D → Option D := fun y x => match x with
  | .dct ks l => (dK y).map fun k => .bl (xor neg (kIn ks k))
  | _ => none
def rDI (neg : Bool) : R2 := fun y x H Q => ∃ a o, x = .ref a ∧ DGet H a y o ∧ Q (.bl (xor neg o.isSome)) H
theorem ops_di (neg : Bool) : OpS G foT (rDI neg) (oDI neg) := by
  intro c O H y x z v1 v2 p1 p2 Q h1 h2 e q
  cases x <;> first | (cases e; done) | skip
  rename_i ks l
  obtain ⟨k, e1, rfl⟩ := Option.map_eq_some_iff.mp e
  obtain ⟨a, kvs, rfl, r1, rfl, rl⟩ := h2
  refine ⟨a, valV kvs k, rfl, .inl ⟨kvs, k, r1, dK_v e1 h1, rfl⟩, ?_⟩
  rw [dGet_n]
  exact q.bl
theorem di_core {ea eb : EvE} (neg : Bool) : ∀ σ H Q, TEv G W F F2 (.uq true) (eB2 (oDI neg) ea eb) σ H Q → tOp (rDI neg) (TEv G W F F1 f1 ea) (TEv G W F1 F2 f2 eb) σ H Q := OpS.core (ops_di neg) (fun _ _ _ z => z) fun _ _ _ z => z
theorem de_din (g : Gv G N sc X) {a b : Expr} {pos : Pos} {ea eb : EvE} (ha : PE X a (TEv G W F F1 f1 ea)) (hb : PE X b (TEv G W F1 F2 f2 eb)) (hm : behindInMarks .In b = false := by rfl) :
    PE X (.Compare a [.In] [b] pos) (TEv G W F F2 (.uq true) (eB2 (oDI false) ea eb)) := by
  refine pe_imp (pe_cmp (pc_din (by have := g.un; omega) ha hb) hm) ?_
  intro σ H Q h
  have := di_core (F1 := F1) (f1 := f1) (f2 := f2) false σ H Q h
  simp only [tOp, rDI, Bool.false_xor] at this
  exact this
theorem de_dnin (g : Gv G N sc X) {a b : Expr} {pos : Pos} {ea eb : EvE} (ha : PE X a (TEv G W F F1 f1 ea)) (hb : PE X b (TEv G W F1 F2 f2 eb)) (hm : behindInMarks .NotIn b = false := by rfl) :
    PE X (.Compare a [.NotIn] [b] pos) (TEv G W F F2 (.uq true) (eB2 (oDI true) ea eb)) := by
  refine pe_imp (pe_cmp (pc_dnotin (by have := g.un; omega) ha hb) hm) ?_
  intro σ H Q h
  have := di_core (F1 := F1) (f1 := f1) (f2 := f2) true σ H Q h
  simp only [tOp, rDI, Bool.true_xor] at this
  exact this
theorem tB_core {ev : EvE} {t : TE} (h : ∀ σ H Q, TEv G W F F1 f ev σ H Q → t σ H Q) : ∀ σ H Q, TTv G W F F1 (tV ev) σ H Q → tB t σ H Q := by
  rintro σ H Q ⟨c, en, own, ok, m⟩
  refine h _ _ _ ⟨c, en, own, ok, m.bnd.imp fun d _ md v H1 own1 ok1 s1 b1 r1 => ?_⟩
  obtain ⟨b, eb, q⟩ := md.ofO
  cases d <;> first | (cases eb; exact ⟨_, r1.bl, q H1 own1 ok1 s1 b1⟩) | cases eb
theorem dt_din (g : Gv G N sc X) {a b : Expr} {pos : Pos} {ea eb : EvE} (ha : PE X a (TEv G W F F1 f1 ea)) (hb : PE X b (TEv G W F1 F2 f2 eb)) (hm : behindInMarks .In b = false := by rfl) :
    PT X (.Compare a [.In] [b] pos) (TTv G W F F2 (tV (eB2 (oDI false) ea eb))) := by
  refine pt_imp (pt_cmp (pc_din (by have := g.un; omega) ha hb) hm) (tB_core (f := .uq true) ?_)
  intro σ H Q h
  have := di_core (F1 := F1) (f1 := f1) (f2 := f2) false σ H Q h
  simp only [tOp, rDI, Bool.false_xor] at this
  exact this
theorem dt_dnin (g : Gv G N sc X) {a b : Expr} {pos : Pos} {ea eb : EvE} (ha : PE X a (TEv G W F F1 f1 ea)) (hb : PE X b (TEv G W F1 F2 f2 eb)) (hm : behindInMarks .NotIn b = false := by rfl) :
    PT X (.Compare a [.NotIn] [b] pos) (TTv G W F F2 (tV (eB2 (oDI true) ea eb))) := by
  refine pt_imp (pt_cmp (pc_dnotin (by have := g.un; omega) ha hb) hm) (tB_core (f := .uq true) ?_)
  intro σ H Q h
  have := di_core (F1 := F1) (f1 := f1) (f2 := f2) true σ H Q h
  simp only [tOp, rDI, Bool.true_xor] at this
  exact this
/-! ### d[k] = v -/
def getD (i : Nat) (en : En) : Rs (List Key × List D) := match en[i]? with
  | some (some (.dct ks l)) => .ok (ks, l)
  | _ => .error .stuck
theorem getD_ok {i : Nat} {q : List Key × List D → Prop} (h : MtS G W c (getD i en) q) : ∃ ks l, en[i]? = some (some (.dct ks l)) ∧ q (ks, l) := by
  unfold getD at h
  split at h
  · rename_i ks l e; exact ⟨ks, l, e, h⟩
  · exact h.elim
def sDSub (i : Nat) (ek ev : EvE) : EvS := fun en => bnd (getD i en) fun p => bnd (ev en) fun d => bnd (ek en) fun kd => bnd (ofO (dK kd)) fun k =>
  if p.1.length < sizeLine then .ok (.nx (en.set i (some (.dct (dPut p.1 p.2 k d).1 (dPut p.1 p.2 k d).2)))) else .error .stuck
theorem Ok.ownD (ok : Ok G c F en own σ H) {i : Nat} {dp : Bool} {ks : List Key} {l : List D} (hf : F[i]? = some (.o dp)) (he : en[i]? = some (some (.dct ks l))) : ∃ p kvs, σ[i]? = some (some (.ref p)) ∧ own.sl i = [p] ∧ H p = some (.dK kvs) ∧ kvs.map (·.1) = ks ∧ RL G (Av c (ow own) dp) H l (kvs.map (·.2)) := by
  obtain ⟨x, h1, p, kvs, e, eo, h2, h3, h4⟩ := ok.ownR hf he
  subst e
  exact ⟨p, kvs, h1, eo, h2, h3, h4⟩
theorem ds_dput (g : Gv G N sc X) (i : Nat) {x : Str} {e ix : Expr} {px spos pos : Pos} {ek ev : EvE} {dp0 dp : Bool} (he : PE X e (TEv G S.W F F1 f ev)) (hi : PE X ix (TEv G S.W F1 F2 f2 ek)) (hN : N[i]? = some x := by rfl) (hv : visB sc x = true := by rfl) (hx : nameB x = true := by rfl) (hf0 : F1[i]? = some (.o dp0) := by rfl) (hf : F2[i]? = some (.o dp) := by rfl) (hn : f.nb = true := by rfl)
    (hs : swapsWith e (some (.Subscript (.Name x px) ix spos)) pos.line X.env = pure false := by rfl) :
    PS X (.Assign [.Subscript (.Name x px) ix spos] e pos) (TSv G S F (F2.set i (.o (dp && f.dp))) (sDSub i ek ev)) := by
  obtain ⟨h1, h2, _⟩ := nameB_d hx
  refine ps_imp (ps_dput (by have := g.un; omega) (pe_var (i := i) (by rw [g.nN]; exact hN) (visB_vis hv g.sc) h1 h2) hi he hs) ?_
  rintro D σ H ⟨c, en, own, ok, m⟩
  obtain ⟨ks, l, hl, m⟩ := getD_ok m.bnd
  refine ⟨c, en, own, ok, m.bnd.e.imp fun d _ q v H1 own1 ok1 s1 b1 r1 => ?_⟩
  obtain ⟨own1', ok1', k1, a1⟩ := r1.share ok1 hn
  obtain ⟨p, kvs, e1, e2, e3, e4, e5⟩ := ok1'.ownD hf0 hl
  refine ⟨.ref p, e1, c, en, own1', ok1', q.bnd.e.imp fun kd hkd q v2 H2 own2 ok2 s2 b2 r2 => ?_⟩
  clear hkd
  obtain ⟨kk, ek, q⟩ := MtS.ofO q.bnd
  obtain ⟨p', kvs', e1', e2', e3', e4', e5'⟩ := ok2.ownD hf hl
  have ep := sig_inj e1 e1'
  subst ep
  dsimp only at q
  subst e4'
  split at q
  · rename_i hlen
    have hw : R G (Av c (ow own2) (dp && f.dp)) H2 d v := R.up (Up.grow s2 b2 (by cases dp <;> cases f.dp <;> rfl)) _ a1
    have hl5 : RL G (Av c (ow own2) (dp && f.dp)) H2 l (kvs'.map (·.2)) := RL.up (Up.sub (fun _ h => h) (by cases dp <;> cases f.dp <;> rfl)) _ e5'
    obtain ⟨z1, z2⟩ := putK_r (k := kk) hl5 hw
    refine ⟨p, _, rfl, .inl ⟨kvs', kk, e3', dK_v ek r2.b, by rw [List.length_map] at hlen; exact hlen, rfl⟩, q σ _ own2 (ok2.wr (dp' := dp && f.dp) hf e2' e3' trivial e1' ⟨p, putK kvs' kk v, rfl, rfl, upd_same, z1, ?_⟩)⟩
    refine RL.up (Up.write e3' trivial fun z => z.1 (.inl ⟨i, by rw [e2']; simp⟩)) _ z2
  · exact q.elim
/-! ### list(d), dict(d), sorted(d) -/
def oListD : List D → Option D
  | [.dct ks _] => some (.lst (ks.map kD))
  | _ => none
theorem kvs_keys (kvs : List (Key × V)) : (kvs.map fun kv => kV kv.1) = (kvs.map (·.1)).map kV := by rw [List.map_map]; rfl
theorem calls_listD : CallS G foL (fun xs H Q => ∃ (a : Addr) (kvs : List (Key × V)), xs = [.ref a] ∧ Rd H a (.dK kvs) ∧ ∀ p, H p = none → Q (.ref p) (upd H p (.lst (kvs.map fun kv => kV kv.1)))) oListD := by
  intro c O H fs ds vs z Q h e q
  match ds, e with
  | [.dct ks l], e =>
    cases e
    obtain ⟨f, v, rfl, rfl, a, kvs, rfl, r1, rfl, rl⟩ := h.one
    exact ⟨a, kvs, rfl, r1, fun p hp => q.new p _ hp ⟨_, rfl, by rw [kvs_keys]; exact kDs_r _⟩⟩
theorem de_listD (g : Gd G N sc k W X) {p pos : Pos} {e : Expr} {ea : En → Rs (List D)} (hm : G.mg "list" = none) (ha : PA X [e] (TAv G W F F1 [f] ea)) (hx : glbB sc "list" = true := by rfl) (he : starEach [e] X.env = [(false, eval e X.env)] := by rfl) :
    PE X (.Call (.Name "list" p) [e] [] pos) (TEv G W F F1 (.uq true) (eBi oListD ea)) :=
  de_callT g.toGv (fo := foL) (T := "list") (call_listD g.calm) calls_listD hm (by decide +kernel) ha hx (by decide) he rfl
def oDict : List D → Option D
  | [.dct ks l] => some (.dct ks l)
  | _ => none
theorem calls_dict : CallS G foH (fun xs H Q => ∃ (a : Addr) (kvs : List (Key × V)), xs = [.ref a] ∧ Rd H a (.dK kvs) ∧ ∀ p, H p = none → Q (.ref p) (upd H p (.dK kvs))) oDict := by
  intro c O H fs ds vs z Q h e q
  match ds, e with
  | [.dct ks l], e =>
    cases e
    obtain ⟨f, v, rfl, rfl, a, kvs, rfl, r1, rfl, rl⟩ := h.one
    exact ⟨a, kvs, rfl, r1, fun p hp => q.new p _ hp ⟨_, rfl, rfl, rl⟩⟩
theorem de_dict (g : Gd G N sc k W X) {p pos : Pos} {e : Expr} {ea : En → Rs (List D)} (hm : G.mg "dict" = none) (ha : PA X [e] (TAv G W F F1 [f] ea)) (hx : glbB sc "dict" = true := by rfl) (he : starEach [e] X.env = [(false, eval e X.env)] := by rfl) :
    PE X (.Call (.Name "dict" p) [e] [] pos) (TEv G W F F1 (.uq f.dp) (eBi oDict ea)) :=
  de_callT g.toGv (fo := foH) (T := "dict") call_dictD calls_dict hm (by decide +kernel) ha hx (by decide) he rfl
end
end Pi
namespace Pi
open PySem PySem.Spec PyProof.Rows L2
/-! ### a dict that is walked stands locked -/
def Fr.lk (c : Fr) (d : Addr) (z : HO) : Fr := ⟨fun b => if b = d then (c.H0 d).map fun _ => z else c.H0 b, c.A0, c.S, fun b => if b = d then some z else c.L b⟩
section
variable {G : Gb} {S : Se} {W : WX} {N : List Str} {sc scope : Scope} {k : Nat} {X : Cx} {F F1 F2 F3 F4 Fh : List SF} {Fo : List SF} {f f1 f2 : VF} {c : Fr} {en : En} {own own0 own1 : Own} {σ : L2.St} {H H' H0 H1 : Hp} {p : Addr} {od : Obj} {kvs : List (Key × V)} {z : HO}
theorem lk_none (a : Addr) : (c.lk p z).H0 a = none ↔ c.H0 a = none := by
  show (if a = p then (c.H0 p).map (fun _ => z) else c.H0 a) = none ↔ _
  by_cases e : a = p
  · subst e
    rw [if_pos rfl]
    simp
  · rw [if_neg e]
theorem Av_lk {O : Addr → Prop} {dp : Bool} {a : Addr} : Av (c.lk p z) O dp a ↔ Av c O dp a := by
  unfold Av
  rw [lk_none]
  exact Iff.rfl
theorem Up.lock {O : Addr → Prop} {dp : Bool} (h : H p = some (.dK kvs)) : Up G.K (Av c O dp) (Av (c.lk p z) O dp) H (upd H p (.frz od (.dK kvs))) := by
  have ne : ∀ {a : Addr} {o : HO}, H a = some o → o ≠ .dK kvs → a ≠ p := fun {a o} e n q => by subst q; rw [h] at e; cases e; exact n rfl
  refine ⟨fun a xs m e => ⟨Av_lk.mpr m, by rw [upd_ne (ne e (by simp))]; exact e⟩, fun a xs m e => ⟨Av_lk.mpr m, ?_⟩, fun a C dx fs m e => ⟨Av_lk.mpr m, by rw [upd_ne (ne e (by simp))]; exact e⟩, fun a xs e => ?_, fun a xs e => e.imp (fun ⟨o, e⟩ => ⟨o, by rw [upd_ne (ne e (by simp))]; exact e⟩) id⟩
  · by_cases q : a = p
    · subst q
      rcases e with e | ⟨o, e⟩
      · rw [h] at e
        cases e
        exact .inr ⟨od, upd_same⟩
      · rw [h] at e
        cases e
    · rcases e with e | ⟨o, e⟩
      · exact .inl (by rw [upd_ne q]; exact e)
      · exact .inr ⟨o, by rw [upd_ne q]; exact e⟩
  · rcases e with e | ⟨o, e⟩
    · exact .inl (by rw [upd_ne (ne e (by simp))]; exact e)
    · exact .inr ⟨o, by rw [upd_ne (ne e (by simp))]; exact e⟩
theorem Up.unlk {A A' : Addr → Prop} (h : H p = some (.frz od (.dK kvs))) (m : ∀ a, A a → A' a) : Up G.K A A' H (upd H p (.dK kvs)) := by
  have ne : ∀ {a : Addr} {o : HO}, H a = some o → o ≠ .frz od (.dK kvs) → a ≠ p := fun {a o} e n q => by subst q; rw [h] at e; cases e; exact n rfl
  refine ⟨fun a xs q e => ⟨m a q, by rw [upd_ne (ne e (by simp))]; exact e⟩, fun a xs q e => ⟨m a q, ?_⟩, fun a C dx fs q e => ⟨m a q, by rw [upd_ne (ne e (by simp))]; exact e⟩, fun a xs e => ?_, fun a xs e => e.imp (fun ⟨o, e⟩ => ⟨o, by rw [upd_ne (ne e (by simp))]; exact e⟩) id⟩
  · by_cases q : a = p
    · subst q
      rcases e with e | ⟨o, e⟩
      · rw [h] at e
        cases e
      · rw [h] at e
        cases e
        exact .inl upd_same
    · rcases e with e | ⟨o, e⟩
      · exact .inl (by rw [upd_ne q]; exact e)
      · exact .inr ⟨o, by rw [upd_ne q]; exact e⟩
  · rcases e with e | ⟨o, e⟩
    · exact .inl (by rw [upd_ne (ne e (by simp))]; exact e)
    · exact .inr ⟨o, by rw [upd_ne (ne e (by simp))]; exact e⟩
theorem Ok.lock (ok : Ok G c F en own σ H) (h : H p = some (.dK kvs)) (hn : ¬ ow own p) : Ok G (c.lk p (.frz od (.dK kvs))) F en own σ (upd H p (.frz od (.dK kvs))) := by
  have nn : ∀ {a}, H a ≠ none → upd H p (.frz od (.dK kvs)) a ≠ none := fun {a} q => by
    by_cases e : a = p
    · rw [e, upd_same]; simp
    · rw [upd_ne e]; exact q
  have os : ∀ {i a}, a ∈ own.sl i → a ≠ p := fun {i a} q e => hn (.inl ⟨i, by rw [← e]; exact q⟩)
  refine ⟨ok.lF, ok.lE, fun b o s e => ?_, fun a s => nn (ok.tr a s), ok.dj, ok.dt, fun a q => ⟨nn (ok.nt a q).1, (lk_none a).mpr (ok.nt a q).2⟩, fun i a q => ⟨nn (ok.nw i a q).1, (ok.nw i a q).2.imp (lk_none a).mpr id⟩, fun i => ?_, fun a o e => ?_⟩
  · change (if b = p then (c.H0 p).map (fun _ => HO.frz od (.dK kvs)) else c.H0 b) = some o at e
    by_cases q : b = p
    · subst q
      rw [if_pos rfl] at e
      rw [upd_same]
      obtain ⟨x, _, e2⟩ := Option.map_eq_some_iff.mp e
      rw [e2]
    · rw [if_neg q] at e
      rw [upd_ne q]
      exact ok.same b o s e
  · have s := ok.sl i
    unfold Slt at s ⊢
    split
    · rename_i dp d hf he; rw [hf, he] at s; obtain ⟨x, h1, h2⟩ := s; exact ⟨x, h1, R.up (Up.lock h) _ h2⟩
    · rename_i dp d hf he; rw [hf, he] at s; obtain ⟨x, h1, h2⟩ := s; exact ⟨x, h1, RO.up h2 (Up.lock h) fun a o m q => by rw [upd_ne (os m)]; exact q⟩
    · rename_i d hf he; rw [hf, he] at s; obtain ⟨x, h1, h2, h3⟩ := s; exact ⟨x, h1, RO.up h2 (Up.lock h) (fun a o m q => by rw [upd_ne (os m)]; exact q), h3⟩
    · rename_i hf; rw [hf] at s; simpa using s
    · trivial
  · change (if a = p then some (HO.frz od (.dK kvs)) else c.L a) = some o at e
    by_cases q : a = p
    · subst q
      rw [if_pos rfl] at e
      cases e
      exact ⟨upd_same, .inr hn⟩
    · rw [if_neg q] at e
      rw [upd_ne q]
      exact ok.lk a o e
theorem Ok.lkd (ok : Ok G (c.lk p z) F en own σ H) : H p = some z ∧ (Im z ∨ ¬ ow own p) := ok.lk p z (if_pos rfl)
theorem Ok.unlk (ok : Ok G (c.lk p (.frz od (.dK kvs))) F en own σ H) (h0 : ∀ o, ¬ c.S p → c.H0 p = some o → o = .dK kvs) (hL : ∀ o, c.L p = some o → o = .dK kvs) : Ok G c F en own σ (upd H p (.dK kvs)) := by
  obtain ⟨h, hn⟩ := ok.lkd
  have hn : ¬ ow own p := hn.resolve_left id
  have nn : ∀ {a}, H a ≠ none → upd H p (.dK kvs) a ≠ none := fun {a} q => by
    by_cases e : a = p
    · rw [e, upd_same]; simp
    · rw [upd_ne e]; exact q
  have os : ∀ {i a}, a ∈ own.sl i → a ≠ p := fun {i a} q e => hn (.inl ⟨i, by rw [← e]; exact q⟩)
  refine ⟨ok.lF, ok.lE, fun b o s e => ?_, fun a s => nn (ok.tr a s), ok.dj, ok.dt, fun a q => ⟨nn (ok.nt a q).1, (lk_none a).mp (ok.nt a q).2⟩, fun i a q => ⟨nn (ok.nw i a q).1, (ok.nw i a q).2.imp (lk_none a).mp id⟩, fun i => ?_, fun a o e => ?_⟩
  · by_cases q : b = p
    · subst q
      rw [upd_same, h0 o s e]
    · rw [upd_ne q]
      exact ok.same b o s (by show (if b = p then _ else c.H0 b) = _; rw [if_neg q]; exact e)
  · have s := ok.sl i
    unfold Slt at s ⊢
    split
    · rename_i dp d hf he; rw [hf, he] at s; obtain ⟨x, h1, h2⟩ := s; exact ⟨x, h1, R.up (Up.unlk h fun _ => Av_lk.mp) _ h2⟩
    · rename_i dp d hf he; rw [hf, he] at s; obtain ⟨x, h1, h2⟩ := s; exact ⟨x, h1, RO.up h2 (Up.unlk h fun _ => Av_lk.mp) fun a o m q => by rw [upd_ne (os m)]; exact q⟩
    · rename_i d hf he; rw [hf, he] at s; obtain ⟨x, h1, h2, h3⟩ := s; exact ⟨x, h1, RO.up h2 (Up.unlk h fun _ => Av_lk.mp) (fun a o m q => by rw [upd_ne (os m)]; exact q), h3⟩
    · rename_i hf; rw [hf] at s; simpa using s
    · trivial
  · by_cases q : a = p
    · subst q
      rw [upd_same, hL o e]
      exact ⟨rfl, .inr hn⟩
    · rw [upd_ne q]
      exact ok.lk a o (by show (if a = p then _ else c.L a) = _; rw [if_neg q]; exact e)
theorem RO.unl {A A' : Addr → Prop} {d : D} {v : V} {os : List Addr} (h : RO G A H d v os) (hp : H p = some (.frz od (.dK kvs))) (m : ∀ a, A a → A' a) : RO G A' (upd H p (.dK kvs)) d v os := by
  refine RO.up h (Up.unlk hp m) fun a o q e => ?_
  have ne : a ≠ p := fun z => by
    subst z
    cases d with
    | lst l => obtain ⟨b, xs, _, eo, h1, _⟩ := h; rw [eo] at q; have : a = b := by simpa using q
               subst this; rw [hp] at h1; cases h1
    | dct ks l => obtain ⟨b, xs, _, eo, h1, _⟩ := h; rw [eo] at q; have : a = b := by simpa using q
                  subst this; rw [hp] at h1; cases h1
    | obj c l => obtain ⟨b, dx, xs, _, eo, h1, _⟩ := h; rw [eo] at q; have : a = b := by simpa using q
                 subst this; rw [hp] at h1; cases h1
    | exc _ => exact h.elim
    | tup _ => rw [h.1] at q; cases q
    | non => rw [h.1] at q; cases q
    | bl _ => rw [h.1] at q; cases q
    | int _ => rw [h.1] at q; cases q
    | str _ => rw [h.1] at q; cases q
    | scr _ => rw [h.1] at q; cases q
  rw [upd_ne ne]
  exact e
theorem RRet.unl {md : Bool} {A0 : Addr → Prop} {d : D} {v : V} (h : RRet G md A0 (c.lk p z).H0 H d v) (hp : H p = some (.frz od (.dK kvs))) : RRet G md A0 c.H0 (upd H p (.dK kvs)) d v := by
  cases md with
  | true =>
    obtain ⟨os, h1, h2⟩ := h
    exact ⟨os, RO.unl h1 hp fun a q => ⟨(lk_none a).mp q.1, q.2⟩, fun a q => (lk_none a).mp (h2 a q)⟩
  | false => exact R.up (Up.unlk hp fun a q => q.imp (lk_none a).mp id) _ h
theorem Sm.unlk (s : (c.lk p (.frz od (.dK kvs))).Sm H) (h0 : ∀ o, ¬ c.S p → c.H0 p = some o → o = .dK kvs) : c.Sm (upd H p (.dK kvs)) := fun b o n e => by
  by_cases q : b = p
  · subst q
    rw [upd_same, h0 o n e]
  · rw [upd_ne q]
    exact s b o n (by show (if b = p then _ else c.H0 b) = _; rw [if_neg q]; exact e)
/-! ### the keys -/
theorem its_keys {dp : Bool} {o : Obj} (h : H0 p = some (.frz o (.dK kvs))) (hn : ¬ ow own0 p) : ItS G (c.pin own0 H0) (Itk p o kvs) dp ((kvs.map (·.1)).map kD) := by
  have at_ : ∀ {F en own σ H}, Ok G (c.pin own0 H0) F en own σ H → H p = some (.frz o (.dK kvs)) := fun ok => (ok.lk p _ (pin_of h (.inr hn))).1
  refine ⟨fun {F en own σ H i d} ok hd => ?_, fun {F en own σ H} ok => ?_⟩
  · rw [List.map_map, List.getElem?_map] at hd
    obtain ⟨kv, e1, e2⟩ := Option.map_eq_some_iff.mp hd
    refine ⟨⟨at_ ok, (List.getElem?_eq_some_iff.mp e1).1⟩, fun x H' y => ?_⟩
    obtain ⟨rfl, k', v', e3, rfl⟩ := y
    rw [e1] at e3
    cases e3
    subst e2
    exact ⟨Same.refl _, kD_r k'⟩
  · exact ⟨at_ ok, by simp⟩
/-- what a for asks of what it walks -/
theorem for_R {J : It} {ds : List D} {dp : Bool} {gg : TG} {tg : Expr} {is : List Nat} {set : En → D → Option En} {eb : EvS} {D : Ends} (ok1 : Ok G c F1 en own1 σ H1) (its : ItS G (c.pin own1 H1) J dp ds) (ht : TgO G X tg gg Fh F2 dp is set) (hw : wkL F1 Fh = true)
    (q : MtS G S.W c (evFor set eb ds en) (Aft G S c Fh D)) : ∃ W : Nat → Nat → L2.St → Hp → Prop, (∃ m, W 0 m σ H1) ∧ ∀ i m σ H, W i m σ H →
  (J.stop i H ∧ D.nx σ H) ∨ (J.go i H ∧ ∃ N : L2.St → Hp → Prop, (∀ σ' H', N σ' H' → ∃ m', m' < m ∧ W (i + 1) m' σ' H') ∧ ∀ x H', J.yld i H x H' → gg x σ H' fun σ2 H2 => TSv G { S with Fc := Fh } F2 Fh eb { D with nx := N, ct := N, bk := D.nx } σ2 H2) := by
  have hlk := ok1.lk
  have okp := ok1.pin
  obtain ⟨own2, ok2, sb, _⟩ := okp.weak hw
  refine ⟨fun i m σ H => m = ds.length - i ∧ i ≤ ds.length ∧ ∃ en own, Ok G (c.pin own1 H1) Fh en own σ H ∧ MtS G S.W c (evFor set eb (ds.drop i) en) (Aft G S c Fh D), ⟨_, rfl, Nat.zero_le _, en, own2, ok2, q⟩, ?_⟩
  rintro i m σ H ⟨rfl, hi, en, own, ok, q⟩
  by_cases hlt : i < ds.length
  · have hd : ds[i]? = some ds[i] := List.getElem?_eq_getElem hlt
    obtain ⟨hgo, hy⟩ := its.go ok hd
    rw [List.drop_eq_getElem_cons hlt] at q
    obtain ⟨en1, e1, q⟩ := MtS.ofO (MtS.bnd q)
    refine .inr ⟨hgo, fun σ' H' => ∃ en own, Ok G (c.pin own1 H1) Fh en own σ' H' ∧ MtS G S.W c (evFor set eb (ds.drop (i + 1)) en) (Aft G S c Fh D), fun σ' H' q' => ⟨_, by omega, rfl, hlt, q'⟩, fun x H' y => ?_⟩
    obtain ⟨sm, r⟩ := hy x H' y
    refine ht.ok (ok.grow sm) r e1 fun σ2 own2 ok2 _ _ => ⟨c.pin own1 H1, en1, own2, ok2, (MtS.bnd q).imp fun fl _ q => ?_⟩
    cases fl with
    | nx en2 => exact fun σ' H' own' ok' => ⟨en2, own', ok', q⟩
    | ct en2 => exact fun σ' H' own' ok' => ⟨en2, own', ok', q⟩
    | rt v => exact fun v' H' sm lkk rr => q v' H' sm (fun a o e => lkk a o (pin_of (hlk a o e).1 (hlk a o e).2)) rr
  · have e : i = ds.length := by omega
    subst e
    rw [List.drop_length] at q
    exact .inl ⟨its.stop ok, q σ H own (ok.unpin hlk)⟩
theorem noR_okS {α : Type} {r : Rs α} {q : α → Prop} (h : MtS G W c (noR r) q) : ∃ a, r = .ok a ∧ q a := by
  cases r with
  | ok a => exact ⟨a, rfl, h⟩
  | error e => exact h.elim
def sForK (i : Nat) (set : En → D → Option En) (b : EvS) : EvS := fun en => bnd (getD i en) fun p => noR (evFor set b (p.1.map kD) en)
theorem aft_unlk {S : Se} {D : Ends} {fl : Fl} (h0 : ∀ o, ¬ c.S p → c.H0 p = some o → o = .dK kvs) (hL : ∀ o, c.L p = some o → o = .dK kvs) (h : Aft G S c Fo D fl) :
    Aft G S (c.lk p (.frz od (.dK kvs))) Fo ⟨fun σ' H' => H' p = some (.frz od (.dK kvs)) ∧ D.nx σ' (upd H' p (.dK kvs)), fun v H' => H' p = some (.frz od (.dK kvs)) ∧ D.rt v (upd H' p (.dK kvs)), fun σ' H' => H' p = some (.frz od (.dK kvs)) ∧ D.bk σ' (upd H' p (.dK kvs)), fun σ' H' => H' p = some (.frz od (.dK kvs)) ∧ D.ct σ' (upd H' p (.dK kvs))⟩ fl := by
  cases fl with
  | nx en' => exact fun σ' H' own' ok' => ⟨ok'.lkd.1, h σ' _ own' (ok'.unlk h0 hL)⟩
  | ct en' => exact fun σ' H' own' ok' => ⟨ok'.lkd.1, h σ' _ own' (ok'.unlk h0 hL)⟩
  | rt d =>
    intro v H' sm lkk rr
    have hp : H' p = some (.frz od (.dK kvs)) := lkk p _ (if_pos rfl)
    refine ⟨hp, h v _ (Sm.unlk sm h0) (fun a o e => ?_) (RRet.unl rr hp)⟩
    by_cases q : a = p
    · subst q
      rw [upd_same, hL o e]
    · rw [upd_ne q]
      exact lkk a o (by show (if a = p then _ else c.L a) = _; rw [if_neg q]; exact e)
theorem Ok.shD (ok : Ok G c F en own σ H) {i : Nat} {dp : Bool} {ks : List Key} {l : List D} (hf : F[i]? = some (.s dp)) (he : en[i]? = some (some (.dct ks l))) : ∃ p kvs, σ[i]? = some (some (.ref p)) ∧ ¬ ow own p ∧ Rd H p (.dK kvs) ∧ kvs.map (·.1) = ks := by
  obtain ⟨x, h1, p, kvs, e, m, h2, h3, _⟩ := ok.get he hf (by simp)
  subst e
  exact ⟨p, kvs, h1, m.1, h2, h3⟩
theorem ds_forK (g : Gs G N sc k S.W X) (i : Nat) {y : Str} {py : Pos} {tg : Expr} {body : List Stmt} {pos : Pos} {gg : TG} {dp dp' : Bool} {set : En → D → Option En} {eb : EvS} {is : List Nat} (ht : TgO G X tg gg Fh F2 dp is set) (hb : PSs X body (TSv G { S with Fc := Fh } F2 Fh eb)) (hN : N[i]? = some y := by rfl) (hv : visB sc y = true := by rfl) (hx : nameB y = true := by rfl) (hf : (mvL F i)[i]? = some (.s dp') := by rfl) (hw : wkL (mvL F i) Fh = true := by rfl)
    (hs : ∀ x, foldedSetIterable (.Name y py) X.env x = pure x := by intro _; rfl) : PS X (.For tg (.Name y py) body [] pos) (TSv G S F Fh (sForK i set eb)) := by
  obtain ⟨n1, n2, _⟩ := nameB_d hx
  have base := ps_for (pos := pos) g.g.po g.g.calm (pi_keys (pe_var (pos := py) (i := i) (by rw [g.g.nN]; exact hN) (visB_vis hv g.g.sc) n1 n2)) ht.pg hb hs
  refine ⟨fun pins s σ H D I hw0 => ?_⟩
  obtain ⟨c, en, own, ok, m⟩ := hw0
  obtain ⟨ks, l, hl, m⟩ := getD_ok m.bnd
  obtain ⟨own1, ok1, sb, _⟩ := ok.weak (mvL_wk F i)
  obtain ⟨p, kvs, e1, e2, e3, e4⟩ := ok1.shD hf hl
  subst e4
  obtain ⟨fl, efl, haft⟩ := noR_okS m
  rcases e3 with e3 | ⟨o, e3⟩
  · refine (ps_lock base).run pins s σ H D I ⟨p, .dK kvs, e3, trivial, fun od => ⟨.ref p, e1, p, od, rfl, .inl ⟨kvs, upd_same, ?_⟩⟩⟩
    have h0 : ∀ o, ¬ c.S p → c.H0 p = some o → o = .dK kvs := fun o n q => by
      have := ok1.same p o n q
      rw [e3] at this
      exact (Option.some.inj this).symm
    have hL : ∀ o, c.L p = some o → o = .dK kvs := fun o q => by
      have := (ok1.lk p o q).1
      rw [e3] at this
      exact (Option.some.inj this).symm
    have okl := ok1.lock (od := od) e3 e2
    refine for_R okl (its_keys upd_same e2) ht hw ?_
    rw [efl]
    exact aft_unlk h0 hL haft
  · refine base.run pins s σ H D I ⟨.ref p, e1, p, o, rfl, .inl ⟨kvs, e3, ?_⟩⟩
    refine for_R ok1 (its_keys e3 e2) ht hw ?_
    rw [efl]
    exact haft
end
end Pi
namespace Pi
open PySem PySem.Spec PyProof.Rows L2
/-! ### comprehensions over a dict -/
section
variable {G : Gb} {S : Se} {W : WX} {N : List Str} {sc scope : Scope} {k : Nat} {X : Cx} {F F1 F2 F3 F4 Fh : List SF} {Fo : List SF} {f f1 f2 : VF} {c : Fr} {en : En} {own own0 own1 : Own} {σ : L2.St} {H H' H0 H1 : Hp} {vs : List Nat} {p : Addr} {od : Obj} {kvs : List (Key × V)}
theorem lc_R {J : It} {ds l : List D} {gg : TG} {tt : TT} {te : TE} {dpi : Bool} {is : List Nat} {set : En → D → Option En} {t : En → Rs Bool} {ee : EvE} {tg : Expr} {X' : Cx} {Q : VK} (ok1 : Ok G c F1 en own1 σ H1) (its : ItS G (c.pin own1 H1) J dpi ds)
    (hg : TgO G X' tg gg (blkF vs F1) F2 false is set) (ht : ∀ σ H Q, TTv G wF F2 F3 t σ H Q → tt σ H Q) (he : ∀ σ H Q, TEv G wF F3 F4 f ee σ H Q → te σ H Q) (his : ∀ i, i ∈ is → i ∈ vs) (hn : f.nb = true)
    (el : evLc set t ee (wipE vs en) ds = .ok l) (hlen : l.length ≤ sizeLine) (q : ∀ v H' own', Ok G c F1 en own' σ H' → Same H1 H' → Sub (ow own1) (ow own') H1 → RV G c own' H' (.uq f.dp) (.lst l) v → Q v H') :
    ∀ D, H1 D = none → ∃ W : Nat → Nat → Hp → Prop, (∃ m, W 0 m (upd H1 D (.lst []))) ∧ ∀ i m H, W i m H →
  (J.stop i H ∧ Q (.ref D) H) ∨ (J.go i H ∧ ∃ Nx : Hp → Prop, (∀ H', Nx H' → ∃ m', m' < m ∧ W (i + 1) m' H') ∧ ∀ x H', J.yld i H x H' → gg x (wipe σ vs) H' fun σ2 H2 => wipe σ2 vs = wipe σ vs ∧ tt σ2 H2 fun b H3 =>
    if b = true then te σ2 H3 fun y H4 => ∃ acc, H4 D = some (.lst acc) ∧ acc.length < sizeLine ∧ Nx (upd H4 D (.lst (acc ++ [y]))) else Nx H3) := by
  intro D hD
  have hfin : ∀ {H : Hp}, Same H1 H → H D ≠ none → Ok G c F1 en (own1.resL [D]) σ H := fun sH nD => ok1.resL sH (fun a ha => by rw [show a = D by simpa using ha]; exact hD) (fun a ha => by rw [show a = D by simpa using ha]; exact nD)
  refine ⟨fun i m H => m = ds.length - i ∧ i ≤ ds.length ∧ Same H1 H ∧ ∃ acc done rest, H D = some (.lst acc) ∧ RL G (Av c (ow (own1.resL [D])) f.dp) H done acc ∧ evLc set t ee (wipE vs en) (ds.drop i) = .ok rest ∧ done ++ rest = l, ⟨_, rfl, Nat.zero_le _, same_new hD, [], [], l, upd_same, rfl, el, rfl⟩, ?_⟩
  rintro i m H ⟨rfl, hi, sH, acc, done, rest, hHD, hRL, hev, hl⟩
  by_cases hlt : i < ds.length
  · have hd : ds[i]? = some ds[i] := List.getElem?_eq_getElem hlt
    rw [List.drop_eq_getElem_cons hlt] at hev
    obtain ⟨en1, e1, hev⟩ := bnd_ok' hev
    obtain ⟨b, e2, hev⟩ := bnd_ok' hev
    have okP : Ok G (c.pin own1 H1) F1 en (own1.resL [D]) σ H := ok1.pin.resL sH (fun a ha => by rw [show a = D by simpa using ha]; exact hD) (fun a ha => by rw [show a = D by simpa using ha, hHD]; simp)
    obtain ⟨hgo, hy⟩ := its.go okP hd
    refine .inr ⟨hgo, fun H5 => Same H1 H5 ∧ ∃ acc done rest, H5 D = some (.lst acc) ∧ RL G (Av c (ow (own1.resL [D])) f.dp) H5 done acc ∧ evLc set t ee (wipE vs en) (ds.drop (i + 1)) = .ok rest ∧ done ++ rest = l, fun H5 q5 => ⟨_, by omega, rfl, hlt, q5.1, q5.2⟩, fun x H' y => ?_⟩
    obtain ⟨sm, rx⟩ := hy x H' y
    have blk := blk_ok (vs := vs) ok1 hD (sH.trans sm) (sm _ _ hHD)
    refine hg.ok blk (R.up up_in _ rx) (ofO_ok' e1) fun σ2 own2 ok2 _ z => ⟨wipe_eq his z.1 z.2, ht _ _ _ ⟨_, en1, own2, ok2, ?_⟩⟩
    rw [e2]
    intro H3 own3 ok3 s3 b3
    cases b with
    | false =>
      rw [if_neg (by decide)] at hev ⊢
      exact ⟨(sH.trans sm).trans s3, acc, done, rest, s3 _ _ (sm _ _ hHD), RL.up (Up.same (sm.trans s3) fun _ h => h) _ hRL, hev, hl⟩
    | true =>
      rw [if_pos rfl] at hev ⊢
      obtain ⟨y', e3, hev⟩ := bnd_ok' hev
      obtain ⟨r, e4, hev⟩ := bnd_ok' hev
      cases hev
      refine he _ _ _ ⟨_, en1, own3, ok3, ?_⟩
      rw [e3]
      intro v H4 own4 ok4 s4 b4 r4
      obtain ⟨own5, ok5, sb5, a4⟩ := r4.share ok4 hn
      have hD4 : H4 D = some (.lst acc) := s4 _ _ (s3 _ _ (sm _ _ hHD))
      have s14 : Same H1 H4 := ((sH.trans sm).trans s3).trans s4
      have nA : ¬ Av c (ow (own1.resL [D])) f.dp D := fun z => z.1 (.inr (.inr (by simp)))
      have hlen2 : acc.length < sizeLine := by
        rw [hRL.len]
        have := congrArg List.length hl
        simp only [List.length_append, List.length_cons] at this
        omega
      refine ⟨acc, hD4, hlen2, fun b o e => ?_, acc ++ [v], done ++ [y'], r, upd_same, RL.app (RL.up (Up.write hD4 trivial nA) _ (RL.up (Up.same ((sm.trans s3).trans s4) fun _ h => h) _ hRL)) (RL.cons (R.up (Up.write hD4 trivial nA) _ (R.up (up_out ok1 hD) _ a4)) RL.nil), e4, by rw [← hl]; simp⟩
      rw [upd_ne (fun z => by rw [z, hD] at e; cases e)]
      exact s14 _ _ e
  · have e : i = ds.length := by omega
    subst e
    rw [List.drop_length] at hev
    cases hev
    rw [List.append_nil] at hl
    subst hl
    have okf := hfin sH (by rw [hHD]; simp)
    have okP : Ok G (c.pin own1 H1) F1 en (own1.resL [D]) σ H := ok1.pin.resL sH (fun a ha => by rw [show a = D by simpa using ha]; exact hD) (fun a ha => by rw [show a = D by simpa using ha, hHD]; simp)
    exact .inl ⟨its.stop okP, q (.ref D) H _ okf sH ((sub_resL fun a ha => by rw [show a = D by simpa using ha]; exact hD)) ⟨[D], ⟨D, acc, rfl, rfl, hHD, hRL⟩, fun a ha => .inr ha⟩⟩
theorem Same.unlk (s : Same (upd H p (.frz od (.dK kvs))) H') (h : H p = some (.dK kvs)) : Same H (upd H' p (.dK kvs)) := fun b o e => by
  by_cases q : b = p
  · subst q
    rw [h] at e
    rw [upd_same, ← e]
  · rw [upd_ne q]
    exact s b o (by rw [upd_ne q]; exact e)
theorem Sub.unlk {O O' : Addr → Prop} (s : Sub O O' (upd H p (.frz od (.dK kvs)))) : Sub O O' H := fun a z => by
  refine (s a z).imp id fun e => ?_
  by_cases q : a = p
  · subst q
    rw [upd_same] at e
    cases e
  · rw [upd_ne q] at e
    exact e
theorem RV.unlk {d : D} {v : V} (h : RV G (c.lk p (.frz od (.dK kvs))) own H' (.uq f.dp) d v) (hp : H' p = some (.frz od (.dK kvs))) : RV G c own (upd H' p (.dK kvs)) (.uq f.dp) d v := by
  obtain ⟨os, h1, h2⟩ := h
  exact ⟨os, RO.unl h1 hp fun _ => Av_lk.mp, h2⟩
def eLcK (vs : List Nat) (i : Nat) (set : En → D → Option En) (t : En → Rs Bool) (e : EvE) : EvE := fun en => bnd (getD i en) fun p => bnd (noR (evLc set t e (wipE vs en) (p.1.map kD))) fun l => if l.length ≤ sizeLine then .ok (.lst l) else .error .stuck
theorem getD_okE {i : Nat} {q : List Key × List D → Prop} (h : Mt G W c σ (getD i en) q) : ∃ ks l, en[i]? = some (some (.dct ks l)) ∧ q (ks, l) := by
  unfold getD at h
  split at h
  · rename_i ks l e; exact ⟨ks, l, e, h⟩
  · exact h.elim
theorem lcK_core {gg : TG} {tt : TT} {te : TE} {dp' : Bool} {is : List Nat} {i : Nat} {set : En → D → Option En} {t : En → Rs Bool} {ee : EvE} {tg : Expr} {X' : Cx} (hf : (mvL F i)[i]? = some (.s dp'))
    (hg : TgO G X' tg gg (blkF vs (mvL F i)) F2 false is set) (ht : ∀ σ H Q, TTv G wF F2 F3 t σ H Q → tt σ H Q) (he : ∀ σ H Q, TEv G wF F3 F4 f ee σ H Q → te σ H Q) (his : ∀ i, i ∈ is → i ∈ vs) (hn : f.nb = true) :
    ∀ σ H Q, TEv G W F (mvL F i) (.uq f.dp) (eLcK vs i set t ee) σ H Q → (tLockE (tLc (iKeys (tVar i)) gg tt te vs) σ H Q ∨ tLc (iKeys (tVar i)) gg tt te vs σ H Q) := by
  rintro σ H Q ⟨c, en, own, ok, m⟩
  obtain ⟨ks, l0, hl, m⟩ := getD_okE m.bnd
  obtain ⟨own1, ok1, sb, _⟩ := ok.weak (mvL_wk F i)
  obtain ⟨p, kvs, e1, e2, e3, e4⟩ := ok1.shD hf hl
  subst e4
  obtain ⟨l, el, q⟩ := noR_ok m.bnd
  split at q
  · rename_i hlen
    have q : ∀ v H' own', Ok G c (mvL F i) en own' σ H' → Same H H' → Sub (ow own) (ow own') H → RV G c own' H' (.uq f.dp) (.lst l) v → Q v H' := q
    have sbH : Sub (ow own) (ow own1) H := fun a z => .inl (sb a z)
    rcases e3 with e3 | ⟨o, e3⟩
    · refine .inl ⟨p, .dK kvs, e3, trivial, fun od => ⟨.ref p, e1, p, od, rfl, .inl ⟨kvs, upd_same, ?_⟩⟩⟩
      have h0 : ∀ o, ¬ c.S p → c.H0 p = some o → o = .dK kvs := fun o n q => by
        have := ok1.same p o n q
        rw [e3] at this
        exact (Option.some.inj this).symm
      have hL : ∀ o, c.L p = some o → o = .dK kvs := fun o q => by
        have := (ok1.lk p o q).1
        rw [e3] at this
        exact (Option.some.inj this).symm
      refine lc_R (Q := fun v H' => H' p = some (.frz od (.dK kvs)) ∧ Q v (upd H' p (.dK kvs))) (ok1.lock (od := od) e3 e2) (its_keys (dp := true) upd_same e2) hg ht he his hn el hlen fun v H' own' ok' s' b' r' => ?_
      have hp := ok'.lkd.1
      exact ⟨hp, q v _ own' (ok'.unlk h0 hL) (Same.unlk s' e3) (sub_trans sbH (Same.refl H) (Sub.unlk b')) (RV.unlk r' hp)⟩
    · refine .inr ⟨.ref p, e1, p, o, rfl, .inl ⟨kvs, e3, ?_⟩⟩
      exact lc_R ok1 (its_keys (dp := true) e3 e2) hg ht he his hn el hlen fun v H' own' ok' s' b' r' => q v H' own' ok' s' (sub_trans sbH (Same.refl H) b') r'
  · exact q.elim
theorem pe_orL {e : Expr} {t t1 : TE} (h : PE X e t1) (m : ∀ σ H Q, t σ H Q → tLockE t1 σ H Q ∨ t1 σ H Q) : PE X e t := by
  refine ⟨fun pins s σ H Q I q => ?_⟩
  rcases m σ H Q q with q | q
  · exact (pe_lock h).run pins s σ H Q I q
  · exact h.run pins s σ H Q I q
theorem de_lcK (g : Gd G N sc k W X) (i : Nat) (own : List (Str × Nat)) {y : Str} {py : Pos} {elt tg : Expr} {ifs : List Expr} {pos : Pos} {gg : TG} {dp' : Bool} {is : List Nat} {set : En → D → Option En} {t : En → Rs Bool} {ee : EvE} (ok : BlkOk N sc scope own)
    (hg : ∀ X', Gd G N (rl sc scope) k wF X' → (∀ x, scope.names.lookup x = some .cell → X'.fn x = true) → TgO G X' tg gg (blkF (own.map (·.2)) (mvL F i)) F2 false is set) (ht : ∀ X', Gd G N (rl sc scope) k wF X' → PTs X' ifs (TTv G wF F2 F3 t)) (he : ∀ X', Gd G N (rl sc scope) k wF X' → PE X' elt (TEv G wF F3 F4 f ee))
    (hN : N[i]? = some y := by rfl) (hv : visB sc y = true := by rfl) (hx : nameB y = true := by rfl) (hf : (mvL F i)[i]? = some (.s dp') := by rfl)
    (his : ∀ i, i ∈ is → i ∈ own.map (·.2) := by decide) (hn : f.nb = true := by rfl) (hs : ∀ x, foldedSetIterable (.Name y py) X.env x = pure x := by intro _; rfl) : PE X (.ListComp elt [⟨tg, .Name y py, ifs, 0⟩] scope pos) (TEv G W F (mvL F i) (.uq f.dp) (eLcK (own.map (·.2)) i set t ee)) := by
  obtain ⟨n1, n2, _⟩ := nameB_d hx
  exact pe_orL (pe_lc g.calm (by rw [g.nN]; exact g.nd) (pi_keys (pe_var (pos := py) (i := i) (by rw [g.nN]; exact hN) (visB_vis hv g.sc) n1 n2)) (by rw [g.nN, g.sc]; exact ok) (fun s H C cl fp => (hg _ g.blk blkFn).pg) (fun s H C cl fp => ht _ g.blk) (fun s H C cl fp => he _ g.blk) hs)
    (lcK_core hf (hg _ (g.blk (s := X.s_0) (H := X.H_0) (C := 0) (cl := []) (fp := [])) blkFn) (fun _ _ _ z => z) (fun _ _ _ z => z) his hn)
/-- name = [.. for .. in d] -/
theorem ps_orL {st : Stmt} {t t1 : TS} (h : PS X st t1) (m : ∀ D σ H, t D σ H → tLock t1 D σ H ∨ t1 D σ H) : PS X st t := by
  refine ⟨fun pins s σ H D I q => ?_⟩
  rcases m D σ H q with q | q
  · exact (ps_lock h).run pins s σ H D I q
  · exact h.run pins s σ H D I q
theorem asK_core {gg : TG} {tt : TT} {te : TE} {dp' : Bool} {is : List Nat} {i j : Nat} {set : En → D → Option En} {t : En → Rs Bool} {ee : EvE} {tg : Expr} {X' : Cx} (hf : (mvL F i)[i]? = some (.s dp')) (hz : zB (mvL F i) j = true)
    (hg : TgO G X' tg gg (blkF vs (mvL F i)) F2 false is set) (ht : ∀ σ H Q, TTv G wF F2 F3 t σ H Q → tt σ H Q) (he : ∀ σ H Q, TEv G wF F3 F4 f ee σ H Q → te σ H Q) (his : ∀ i, i ∈ is → i ∈ vs) (hn : f.nb = true) :
    ∀ D σ H, TSv G S F ((mvL F i).set j (.o f.dp)) (sAs j (eLcK vs i set t ee)) D σ H → (tLock (tAsg (tLc (iKeys (tVar i)) gg tt te vs) (gName j)) D σ H ∨ tAsg (tLc (iKeys (tVar i)) gg tt te vs) (gName j) D σ H) := by
  rintro D σ H ⟨c, en, own, ok, m⟩
  obtain ⟨z1, z2⟩ := zB_of hz
  obtain ⟨ks, l0, hl, m⟩ := getD_ok m.bnd.bnd
  obtain ⟨own1, ok1, sb, _⟩ := ok.weak (mvL_wk F i)
  obtain ⟨p, kvs, e1, e2, e3, e4⟩ := ok1.shD hf hl
  subst e4
  obtain ⟨l, el, q⟩ := noR_okS m.bnd
  split at q
  · rename_i hlen
    have q : ∀ σ' H' own', Ok G c ((mvL F i).set j (.o f.dp)) (en.set j (some (.lst l))) own' σ' H' → D.nx σ' H' := q
    rcases e3 with e3 | ⟨o, e3⟩
    · refine .inl ⟨p, .dK kvs, e3, trivial, fun od => ⟨.ref p, e1, p, od, rfl, .inl ⟨kvs, upd_same, ?_⟩⟩⟩
      have h0 : ∀ o, ¬ c.S p → c.H0 p = some o → o = .dK kvs := fun o n q => by
        have := ok1.same p o n q
        rw [e3] at this
        exact (Option.some.inj this).symm
      have hL : ∀ o, c.L p = some o → o = .dK kvs := fun o q => by
        have := (ok1.lk p o q).1
        rw [e3] at this
        exact (Option.some.inj this).symm
      refine lc_R (Q := fun v H' => gName j v σ H' fun σ' H' => H' p = some (.frz od (.dK kvs)) ∧ D.nx σ' (upd H' p (.dK kvs))) (ok1.lock (od := od) e3 e2) (its_keys (dp := true) upd_same e2) hg ht he his hn el hlen fun v H' own' ok' s' b' r' => ?_
      obtain ⟨own2, ok2, _⟩ := ok'.put (f := .uq f.dp) z1 z2 r' rfl
      exact ⟨ok2.lkd.1, q _ _ own2 (ok2.unlk h0 hL)⟩
    · refine .inr ⟨.ref p, e1, p, o, rfl, .inl ⟨kvs, e3, ?_⟩⟩
      refine lc_R (Q := fun v H' => gName j v σ H' D.nx) ok1 (its_keys (dp := true) e3 e2) hg ht he his hn el hlen fun v H' own' ok' s' b' r' => ?_
      obtain ⟨own2, ok2, _⟩ := ok'.put (f := .uq f.dp) z1 z2 r' rfl
      exact q _ _ own2 ok2
  · exact q.elim
theorem ds_asLcK (g : Gs G N sc k S.W X) (j i : Nat) (own : List (Str × Nat)) {y y2 : Str} {py py2 spos : Pos} {elt tg : Expr} {ifs : List Expr} {pos : Pos} {gg : TG} {dp' : Bool} {is : List Nat} {set : En → D → Option En} {t : En → Rs Bool} {ee : EvE} (ok : BlkOk N sc scope own)
    (hg : ∀ X', Gd G N (rl sc scope) k wF X' → (∀ x, scope.names.lookup x = some .cell → X'.fn x = true) → TgO G X' tg gg (blkF (own.map (·.2)) (mvL F i)) F2 false is set) (ht : ∀ X', Gd G N (rl sc scope) k wF X' → PTs X' ifs (TTv G wF F2 F3 t)) (he : ∀ X', Gd G N (rl sc scope) k wF X' → PE X' elt (TEv G wF F3 F4 f ee))
    (hN : N[i]? = some y := by rfl) (hv : visB sc y = true := by rfl) (hx : nameB y = true := by rfl) (hf : (mvL F i)[i]? = some (.s dp') := by rfl)
    (his : ∀ i, i ∈ is → i ∈ own.map (·.2) := by decide) (hn : f.nb = true := by rfl) (hN2 : N[j]? = some y2 := by rfl) (hy : plainLocB sc y2 = true := by rfl) (hz : zB (mvL F i) j = true := by rfl)
    (hln : (py2.line == pos.line) = true := by rfl) (hnn : (scope.names.any fun (n, k) => n == y2 && (k == .local || k == .cell)) = false := by rfl) (hs : ∀ x, foldedSetIterable (.Name y py) X.env x = pure x := by intro _; rfl) :
    PS X (.Assign [.Name y2 py2] (.ListComp elt [⟨tg, .Name y py, ifs, 0⟩] scope pos) spos) (TSv G S F ((mvL F i).set j (.o f.dp)) (sAs j (eLcK (own.map (·.2)) i set t ee))) := by
  obtain ⟨n1, n2, _⟩ := nameB_d hx
  exact ps_orL (ps_setLc (i := j) g.g.calm (by rw [g.g.nN]; exact g.g.nd) (by rw [g.g.nN]; exact hN2) (plainLocB_loc hy g.g.sc) (sw_lc_yes g hy hln hnn) (pi_keys (pe_var (pos := py) (i := i) (by rw [g.g.nN]; exact hN) (visB_vis hv g.g.sc) n1 n2)) (by rw [g.g.nN, g.g.sc]; exact ok) (fun s H C cl fp => (hg _ g.g.blk blkFn).pg) (fun s H C cl fp => ht _ g.g.blk) (fun s H C cl fp => he _ g.g.blk) hs)
    (asK_core hf hz (hg _ (g.g.blk (s := X.s_0) (H := X.H_0) (C := 0) (cl := []) (fp := [])) blkFn) (fun _ _ _ z => z) (fun _ _ _ z => z) his hn)
end
end Pi
namespace Pi
open PySem PySem.Spec PyProof.Rows L2
/-! ### comprehensions over a dict that stays owned -/
section
variable {G : Gb} {S : Se} {W : WX} {N : List Str} {sc scope : Scope} {k : Nat} {X : Cx} {F F1 F2 F3 F4 Fh : List SF} {Fo : List SF} {f f1 f2 : VF} {c : Fr} {en : En} {own own0 own1 : Own} {σ : L2.St} {H H' H0 H1 : Hp} {vs : List Nat} {p : Addr} {od : Obj} {kvs : List (Key × V)}
theorem lc_RF {J : It} {ds l : List D} {gg : TG} {tt : TT} {te : TE} {dpi : Bool} {is : List Nat} {set : En → D → Option En} {t : En → Rs Bool} {ee : EvE} {tg : Expr} {X' : Cx} {Q : VK} (ok1 : Ok G c F1 en own1 σ H1) (its : ItS G (c.pin own1 H1) J dpi ds)
    (hg : TgO G X' tg gg (blkF vs F1) F2 false is set) (ht : ∀ σ H Q, TTv G wF F2 F3 t σ H Q → tt σ H Q) (he : ∀ σ H Q, TEv G wF F3 F4 f ee σ H Q → te σ H Q) (his : ∀ i, i ∈ is → i ∈ vs) (hn : f.nb = true)
    (el : evLc set t ee (wipE vs en) ds = .ok l) (hlen : l.length ≤ sizeLine) (q : ∀ v H' own', Ok G c F1 en own' σ H' → Same H1 H' → Sub (ow own1) (ow own') H1 → ∀ D acc, v = .ref D → H1 D = none → H' D = some (.lst acc) → (∃ A, RL G A H' l acc) → Q v H') :
    ∀ D, H1 D = none → ∃ W : Nat → Nat → Hp → Prop, (∃ m, W 0 m (upd H1 D (.lst []))) ∧ ∀ i m H, W i m H →
  (J.stop i H ∧ Q (.ref D) H) ∨ (J.go i H ∧ ∃ Nx : Hp → Prop, (∀ H', Nx H' → ∃ m', m' < m ∧ W (i + 1) m' H') ∧ ∀ x H', J.yld i H x H' → gg x (wipe σ vs) H' fun σ2 H2 => wipe σ2 vs = wipe σ vs ∧ tt σ2 H2 fun b H3 =>
    if b = true then te σ2 H3 fun y H4 => ∃ acc, H4 D = some (.lst acc) ∧ acc.length < sizeLine ∧ Nx (upd H4 D (.lst (acc ++ [y]))) else Nx H3) := by
  intro D hD
  have hfin : ∀ {H : Hp}, Same H1 H → H D ≠ none → Ok G c F1 en (own1.resL [D]) σ H := fun sH nD => ok1.resL sH (fun a ha => by rw [show a = D by simpa using ha]; exact hD) (fun a ha => by rw [show a = D by simpa using ha]; exact nD)
  refine ⟨fun i m H => m = ds.length - i ∧ i ≤ ds.length ∧ Same H1 H ∧ ∃ acc done rest, H D = some (.lst acc) ∧ RL G (Av c (ow (own1.resL [D])) f.dp) H done acc ∧ evLc set t ee (wipE vs en) (ds.drop i) = .ok rest ∧ done ++ rest = l, ⟨_, rfl, Nat.zero_le _, same_new hD, [], [], l, upd_same, rfl, el, rfl⟩, ?_⟩
  rintro i m H ⟨rfl, hi, sH, acc, done, rest, hHD, hRL, hev, hl⟩
  by_cases hlt : i < ds.length
  · have hd : ds[i]? = some ds[i] := List.getElem?_eq_getElem hlt
    rw [List.drop_eq_getElem_cons hlt] at hev
    obtain ⟨en1, e1, hev⟩ := bnd_ok' hev
    obtain ⟨b, e2, hev⟩ := bnd_ok' hev
    have okP : Ok G (c.pin own1 H1) F1 en (own1.resL [D]) σ H := ok1.pin.resL sH (fun a ha => by rw [show a = D by simpa using ha]; exact hD) (fun a ha => by rw [show a = D by simpa using ha, hHD]; simp)
    obtain ⟨hgo, hy⟩ := its.go okP hd
    refine .inr ⟨hgo, fun H5 => Same H1 H5 ∧ ∃ acc done rest, H5 D = some (.lst acc) ∧ RL G (Av c (ow (own1.resL [D])) f.dp) H5 done acc ∧ evLc set t ee (wipE vs en) (ds.drop (i + 1)) = .ok rest ∧ done ++ rest = l, fun H5 q5 => ⟨_, by omega, rfl, hlt, q5.1, q5.2⟩, fun x H' y => ?_⟩
    obtain ⟨sm, rx⟩ := hy x H' y
    have blk := blk_ok (vs := vs) ok1 hD (sH.trans sm) (sm _ _ hHD)
    refine hg.ok blk (R.up up_in _ rx) (ofO_ok' e1) fun σ2 own2 ok2 _ z => ⟨wipe_eq his z.1 z.2, ht _ _ _ ⟨_, en1, own2, ok2, ?_⟩⟩
    rw [e2]
    intro H3 own3 ok3 s3 b3
    cases b with
    | false =>
      rw [if_neg (by decide)] at hev ⊢
      exact ⟨(sH.trans sm).trans s3, acc, done, rest, s3 _ _ (sm _ _ hHD), RL.up (Up.same (sm.trans s3) fun _ h => h) _ hRL, hev, hl⟩
    | true =>
      rw [if_pos rfl] at hev ⊢
      obtain ⟨y', e3, hev⟩ := bnd_ok' hev
      obtain ⟨r, e4, hev⟩ := bnd_ok' hev
      cases hev
      refine he _ _ _ ⟨_, en1, own3, ok3, ?_⟩
      rw [e3]
      intro v H4 own4 ok4 s4 b4 r4
      obtain ⟨own5, ok5, sb5, a4⟩ := r4.share ok4 hn
      have hD4 : H4 D = some (.lst acc) := s4 _ _ (s3 _ _ (sm _ _ hHD))
      have s14 : Same H1 H4 := ((sH.trans sm).trans s3).trans s4
      have nA : ¬ Av c (ow (own1.resL [D])) f.dp D := fun z => z.1 (.inr (.inr (by simp)))
      have hlen2 : acc.length < sizeLine := by
        rw [hRL.len]
        have := congrArg List.length hl
        simp only [List.length_append, List.length_cons] at this
        omega
      refine ⟨acc, hD4, hlen2, fun b o e => ?_, acc ++ [v], done ++ [y'], r, upd_same, RL.app (RL.up (Up.write hD4 trivial nA) _ (RL.up (Up.same ((sm.trans s3).trans s4) fun _ h => h) _ hRL)) (RL.cons (R.up (Up.write hD4 trivial nA) _ (R.up (up_out ok1 hD) _ a4)) RL.nil), e4, by rw [← hl]; simp⟩
      rw [upd_ne (fun z => by rw [z, hD] at e; cases e)]
      exact s14 _ _ e
  · have e : i = ds.length := by omega
    subst e
    rw [List.drop_length] at hev
    cases hev
    rw [List.append_nil] at hl
    subst hl
    have okf := hfin sH (by rw [hHD]; simp)
    have okP : Ok G (c.pin own1 H1) F1 en (own1.resL [D]) σ H := ok1.pin.resL sH (fun a ha => by rw [show a = D by simpa using ha]; exact hD) (fun a ha => by rw [show a = D by simpa using ha, hHD]; simp)
    exact .inl ⟨its.stop okP, q (.ref D) H _ okf sH ((sub_resL fun a ha => by rw [show a = D by simpa using ha]; exact hD)) D acc rfl hD hHD ⟨_, hRL⟩⟩
/-- [.. for .. in d], d owned, its elements flat: d stays owned -/
def eLcKF (vs : List Nat) (i : Nat) (set : En → D → Option En) (t : En → Rs Bool) (e : EvE) : EvE := fun en => bnd (getD i en) fun p => bnd (noR (evLc set t e (wipE vs en) (p.1.map kD))) fun l => if l.length ≤ sizeLine ∧ flat.flatL l = true then .ok (.lst l) else .error .stuck
theorem lcKF_fin {l : List D} {acc : List V} {D : Addr} {dp : Bool} (ok : Ok G c F en own σ H) (s : Same H H') (hD : H D = none) (h : H' D = some (.lst acc)) (hf : flat.flatL l = true) (hR : ∃ A, RL G A H' l acc) : Ok G c F en (own.resL [D]) σ H' ∧ Sub (ow own) (ow (own.resL [D])) H ∧ RV G c (own.resL [D]) H' (.uq dp) (.lst l) (.ref D) := by
  obtain ⟨A, hR⟩ := hR
  have e : ∀ a, a ∈ [D] → a = D := fun a ha => by simpa using ha
  refine ⟨ok.resL s (fun a ha => by rw [e a ha]; exact hD) (fun a ha => by rw [e a ha, h]; simp), sub_resL fun a ha => by rw [e a ha]; exact hD, [D], ⟨D, acc, rfl, rfl, h, RL.flat l hf hR⟩, fun a ha => .inr ha⟩
theorem lcKF_core {gg : TG} {tt : TT} {te : TE} {dp' : Bool} {is : List Nat} {i : Nat} {set : En → D → Option En} {t : En → Rs Bool} {ee : EvE} {tg : Expr} {X' : Cx} {dp : Bool} (hf : (mvL F i)[i]? = some (.s dp'))
    (hg : TgO G X' tg gg (blkF vs (mvL F i)) F2 false is set) (ht : ∀ σ H Q, TTv G wF F2 F3 t σ H Q → tt σ H Q) (he : ∀ σ H Q, TEv G wF F3 F4 f ee σ H Q → te σ H Q) (his : ∀ i, i ∈ is → i ∈ vs) (hn : f.nb = true) :
    ∀ σ H Q, TEv G W F F (.uq dp) (eLcKF vs i set t ee) σ H Q → (tLockE (tLc (iKeys (tVar i)) gg tt te vs) σ H Q ∨ tLc (iKeys (tVar i)) gg tt te vs σ H Q) := by
  rintro σ H Q ⟨c, en, own, ok, m⟩
  obtain ⟨ks, l0, hl, m⟩ := getD_okE m.bnd
  obtain ⟨own1, ok1, sb, _⟩ := ok.weak (mvL_wk F i)
  obtain ⟨p, kvs, e1, e2, e3, e4⟩ := ok1.shD hf hl
  subst e4
  obtain ⟨l, el, q⟩ := noR_ok m.bnd
  split at q
  · rename_i hlen
    have q : ∀ v H' own', Ok G c F en own' σ H' → Same H H' → Sub (ow own) (ow own') H → RV G c own' H' (.uq dp) (.lst l) v → Q v H' := q
    have fin : ∀ H' D acc, Same H H' → H D = none → H' D = some (.lst acc) → (∃ A, RL G A H' l acc) → Q (.ref D) H' := fun H' D acc s hD h hR => by
      obtain ⟨z1, z2, z3⟩ := lcKF_fin (dp := dp) ok s hD h hlen.2 hR
      exact q _ _ _ z1 s z2 z3
    rcases e3 with e3 | ⟨o, e3⟩
    · refine .inl ⟨p, .dK kvs, e3, trivial, fun od => ⟨.ref p, e1, p, od, rfl, .inl ⟨kvs, upd_same, ?_⟩⟩⟩
      refine lc_RF (Q := fun v H' => H' p = some (.frz od (.dK kvs)) ∧ Q v (upd H' p (.dK kvs))) (ok1.lock (od := od) e3 e2) (its_keys (dp := true) upd_same e2) hg ht he his hn el hlen.1 fun v H' own' ok' s' b' D acc hv hD hH' hR => ?_
      have hp := ok'.lkd.1
      have ne : D ≠ p := fun z => by rw [z, upd_same] at hD; cases hD
      rw [upd_ne ne] at hD
      subst hv
      obtain ⟨A, hR⟩ := hR
      exact ⟨hp, fin _ D acc (Same.unlk s' e3) hD (by rw [upd_ne ne]; exact hH') ⟨A, RL.up (Up.unlk hp fun _ h => h) _ hR⟩⟩
    · refine .inr ⟨.ref p, e1, p, o, rfl, .inl ⟨kvs, e3, ?_⟩⟩
      exact lc_RF ok1 (its_keys (dp := true) e3 e2) hg ht he his hn el hlen.1 fun v H' own' ok' s' b' D acc hv hD hH' hR => by
        subst hv
        exact fin _ D acc s' hD hH' hR
  · exact q.elim
theorem de_lcKF (g : Gd G N sc k W X) (i : Nat) (own : List (Str × Nat)) {y : Str} {py : Pos} {elt tg : Expr} {ifs : List Expr} {pos : Pos} {gg : TG} {dp' dp : Bool} {is : List Nat} {set : En → D → Option En} {t : En → Rs Bool} {ee : EvE} (ok : BlkOk N sc scope own)
    (hg : ∀ X', Gd G N (rl sc scope) k wF X' → (∀ x, scope.names.lookup x = some .cell → X'.fn x = true) → TgO G X' tg gg (blkF (own.map (·.2)) (mvL F i)) F2 false is set) (ht : ∀ X', Gd G N (rl sc scope) k wF X' → PTs X' ifs (TTv G wF F2 F3 t)) (he : ∀ X', Gd G N (rl sc scope) k wF X' → PE X' elt (TEv G wF F3 F4 f ee))
    (hN : N[i]? = some y := by rfl) (hv : visB sc y = true := by rfl) (hx : nameB y = true := by rfl) (hf : (mvL F i)[i]? = some (.s dp') := by rfl)
    (his : ∀ i, i ∈ is → i ∈ own.map (·.2) := by decide) (hn : f.nb = true := by rfl) (hs : ∀ x, foldedSetIterable (.Name y py) X.env x = pure x := by intro _; rfl) : PE X (.ListComp elt [⟨tg, .Name y py, ifs, 0⟩] scope pos) (TEv G W F F (.uq dp) (eLcKF (own.map (·.2)) i set t ee)) := by
  obtain ⟨n1, n2, _⟩ := nameB_d hx
  exact pe_orL (pe_lc g.calm (by rw [g.nN]; exact g.nd) (pi_keys (pe_var (pos := py) (i := i) (by rw [g.nN]; exact hN) (visB_vis hv g.sc) n1 n2)) (by rw [g.nN, g.sc]; exact ok) (fun s H C cl fp => (hg _ g.blk blkFn).pg) (fun s H C cl fp => ht _ g.blk) (fun s H C cl fp => he _ g.blk) hs)
    (lcKF_core hf (hg _ (g.blk (s := X.s_0) (H := X.H_0) (C := 0) (cl := []) (fp := [])) blkFn) (fun _ _ _ z => z) (fun _ _ _ z => z) his hn)
/-! ### targets that are locals of a block whose other names may be cells -/
def tgL (sc : Scope) : List Expr → Bool
  | [] => true
  | .Name x _ :: es => decide (sc.names.lookup x = some .local) && tgL sc es
  | _ => false
theorem dg_namesL (hnN : X.N = N) (hnd : N.Nodup) (hsc : X.env.scope = sc) : ∀ {is : List Nat} {es : List Expr}, tgB N sc F is es = true → tgL sc es = true →
    PGs X es (gNames is) ∧ (assignEach es X.env).length = is.length ∧ (assignEach es X.env).findIdx? (·.1) = none
  | [], [], _, _ => ⟨pgs_nil, rfl, rfl⟩
  | i :: is, .Name x p :: es, h, hl => by
    simp only [tgB, Bool.and_eq_true, decide_eq_true_eq] at h
    simp only [tgL, Bool.and_eq_true, decide_eq_true_eq] at hl
    obtain ⟨ih1, ih2, ih3⟩ := dg_namesL hnN hnd hsc h.2 hl.2
    refine ⟨pgs_cons (pg_name (i := i) (by rw [hnN]; exact hnd) (by rw [hnN]; exact h.1.1.1) (locB_loc h.1.1.2 hsc) (.inr (by rw [hsc]; exact hl.1))) ih1 rfl, ?_, ?_⟩
    · show (assignEach es X.env).length + 1 = is.length + 1
      rw [ih2]
    · show List.findIdx? _ ((false, assign (.Name x p) X.env) :: assignEach es X.env) = none
      rw [List.findIdx?_cons]
      simp [ih3]
  | [], e :: es, h, _ => by cases e <;> cases h
  | i :: is, [], h, _ => by cases h
theorem tg_tupL (g : Gd G N sc k W X) (is : List Nat) {es : List Expr} {n : Nat} {tp : Pos} {dp : Bool} (ht : tgB N sc F is es = true := by rfl) (hp : tgL sc es = true := by rfl) : TgO G X (.Tuple es n tp) (gTup G.K is.length (gNames is)) F (setF F (.s dp) is) dp is (setT is) := by
  obtain ⟨h1, h2, h3⟩ := dg_namesL g.nN g.nd g.sc ht hp
  refine ⟨by rw [← g.K]; exact pg_tup (n := is.length) g.calm h1 h2 h3, fun {c en own σ H d v en' Q} ok r e q => ?_⟩
  cases d <;> first | (cases e; done) | skip
  rename_i ds
  simp only [setT] at e
  split at e
  · rename_i hl
    cases e
    obtain ⟨a, xs, rfl, hq, rl⟩ := r
    exact ⟨a, xs, rfl, hq, by rw [rl.len]; exact hl, names_core2 ht ok rl hl q⟩
  · cases e
end
end Pi
namespace Pi
open PySem PySem.Spec PyProof.Rows L2
/-! ### sorted(..) -/
section
variable {G : Gb} {S : Se} {W : WX} {N : List Str} {sc scope : Scope} {k : Nat} {X : Cx} {F F1 F2 F3 F4 Fh : List SF} {Fo : List SF} {f f1 f2 : VF} {c : Fr} {en : En} {own own0 own1 : Own} {σ : L2.St} {H H' H0 H1 : Hp}
theorem RL.zip {A : Addr → Prop} : ∀ {l : List D} {ys : List V}, RL G A H l ys → ∀ x, x ∈ ys.zip l → R G A H x.2 x.1
  | [], _, h, x, hx => by simp at hx
  | d :: l, _, ⟨v, r, e, h1, h2⟩, x, hx => by
    subst e
    rcases List.mem_cons.mp hx with e | hx
    · subst e; exact h1
    · exact RL.zip h2 x hx
theorem RL.unzip {A : Addr → Prop} : ∀ zs : List (V × D), (∀ x, x ∈ zs → R G A H x.2 x.1) → RL G A H (zs.map (·.2)) (zs.map (·.1))
  | [], _ => rfl
  | z :: zs, h => RL.cons (h z List.mem_cons_self) (RL.unzip zs fun x hx => h x (List.mem_cons_of_mem _ hx))
abbrev leP : PyData → PyData → Bool := PySem.W.dataLe false id
/-- by what they stand for -/
def srtD (l : List D) : List D := l.mergeSort fun a b => leP (toP a) (toP b)
def srtV (ys : List V) (ds : List PyData) : List (V × PyData) := (ys.zip ds).mergeSort (PySem.W.dataLe false (·.2))
theorem srt_r {A : Addr → Prop} {l : List D} {ys : List V} (h : RL G A H l ys) : RL G A H (srtD l) ((srtV ys (toPL l)).map (·.1)) := by
  have len := h.len
  have e1 : ys.zip (toPL l) = (ys.zip l).map fun x => (x.1, toP x.2) := by
    rw [toPL_map]
    clear h
    induction l generalizing ys with
    | nil => simp
    | cons d l ih => cases ys with
      | nil => rfl
      | cons y ys => simp only [List.map_cons, List.zip_cons_cons]; rw [ih (by simpa using len)]
  have e2 : srtV ys (toPL l) = ((ys.zip l).mergeSort fun a b => leP (toP a.2) (toP b.2)).map fun x => (x.1, toP x.2) := by
    unfold srtV
    rw [e1]
    exact (List.map_mergeSort (r := fun a b => leP (toP a.2) (toP b.2)) (s := PySem.W.dataLe false (·.2)) (f := fun x : V × D => (x.1, toP x.2)) (fun a _ b _ => rfl)).symm
  have e3 : srtD l = ((ys.zip l).mergeSort fun a b => leP (toP a.2) (toP b.2)).map (·.2) := by
    unfold srtD
    rw [List.map_mergeSort (s := fun a b => leP (toP a) (toP b)) (fun a _ b _ => rfl)]
    congr 1
    rw [List.map_snd_zip (by omega)]
  rw [e2, e3, List.map_map]
  refine RL.unzip _ fun x hx => RL.zip h x ((List.mergeSort_perm _ _).mem_iff.mp hx)
theorem dpAll_len {K : PySem.W.Frag} : ∀ {ys : List V} {ds : List PyData}, DpAll K H ys ds → ys.length = ds.length
  | _, _, .nil => rfl
  | _, _, .cons _ h => congrArg Nat.succ (dpAll_len h)
def rSrt (K : PySem.W.Frag) : List V → Hp → VK → Prop := fun xs H Q => ∃ (p : Addr) (ys : List V) (ds : List PyData), xs = [V.ref p] ∧ SqL K H p ys ∧ DpAll K H ys ds ∧ PySem.W.AllAlike ds ∧ PySem.W.Sortable ds ∧ (∀ d, d ∈ ds → d.depth ≤ 40) ∧ ∀ q, H q = none → Q (.ref q) (upd H q (.lst ((srtV ys ds).map (·.1))))
theorem each_rel {pins : List (Addr × Obj)} {s : Shared} (I : Inv X pins σ H s) : ∀ {ys : List V} {ds : List PyData} {us : List Value}, Vals ys us → DpAll X.K H ys ds → PySem.W.EachIs (fun (u : Value) (b : V × PyData) => RelV b.1 u) us (ys.zip ds) ∧ PySem.W.EachIs (fun (u : Value) (b : V × PyData) => ∃ as, Reads s.heap u b.2 as) us (ys.zip ds)
  | _, _, _, .nil, .nil => ⟨.nil, .nil⟩
  | _, _, _, .cons r t, .cons h1 h2 => ⟨.cons r (each_rel I t h2).1, .cons (Dp.reads I _ _ _ h1 r) (each_rel I t h2).2⟩
theorem vals_each : ∀ {us : List Value} {bs : List (V × PyData)}, PySem.W.EachIs (fun (u : Value) (b : V × PyData) => RelV b.1 u) us bs → Vals (bs.map (·.1)) us
  | _, _, .nil => .nil
  | _, _, .cons h t => .cons h (vals_each t)
theorem cr_srt (hu : X.A.units + 64 < cLine) : CallR X (.builtin "sorted") (rSrt X.K) := by
  intro pins s σ H xs us Q I r h
  obtain ⟨p, ys, ds, rfl, hs, hd, h1, h2, h3, q⟩ := h
  obtain ⟨its, rv, hl, hz⟩ := I.list hs
  rw [Vals.ref1 r]
  obtain ⟨e1, e2⟩ := each_rel I rv hd
  have em : (ys.zip ds).map (·.2) = ds := List.map_snd_zip (by rw [dpAll_len hd]; exact Nat.le_refl _)
  have hlz : (ys.zip ds).length = ys.length := by rw [List.length_zip, dpAll_len hd]; simp
  refine PySem.W.sorted_data (β := V × PyData) (enc := fun b => b.2) (R := fun u b => RelV b.1 u) hl.isList e1 e2 (by rw [em]; exact h1) (by rw [em]; exact h2) (by rw [hlz]; exact hz) (fun b hb => ?_) fun out ho he => ?_
  · have := h3 b.2 (by rw [← em]; exact List.mem_map_of_mem hb)
    omega
  · obtain ⟨ep, he'⟩ := PyProof.Rows.sortedAll_at s.heap its (List.toArray out)
    have hv := vals_each he
    have hlen : (((ys.zip ds).mergeSort (PySem.W.dataLe false (·.2))).map (·.1)).length ≤ sizeLine := by rw [List.length_map, List.length_mergeSort, hlz]; exact hz
    exact ⟨.ref _, upd H (s.heap.objs.size + 1) (.lst ((srtV ys ds).map (·.1))), I.laid (t' := s.toks) (fun _ _ => PyProof.Rows.sortedAll_old) (Nat.le_succ _) ⟨hlen, out, ep, hv, he'⟩, rfl, q _ (I.hok.fresh (Nat.le_succ _))⟩
/-- alike, and sortable -/
def alkB (ds : List PyData) : Bool := ds.all fun d => ds.all fun d' => PySem.W.alike d d'
def srtB (ds : List PyData) : Bool := (ds.all fun d => match d with
  | .tuple (_ :: _) => true
  | _ => false) || ds.all fun d => match d with
  | .none => false
  | .tuple _ => false
  | _ => true
theorem alkB_ok {ds : List PyData} (h : alkB ds = true) : PySem.W.AllAlike ds := fun d hd d' hd' => List.all_eq_true.mp (List.all_eq_true.mp h d hd) d' hd'
theorem srtB_ok {ds : List PyData} (h : srtB ds = true) : PySem.W.Sortable ds := by
  unfold srtB at h
  rw [Bool.or_eq_true] at h
  rcases h with h | h
  · refine .inl fun d hd => ?_
    have := List.all_eq_true.mp h d hd
    split at this
    · exact ⟨_, _, rfl⟩
    · cases this
  · refine .inr fun d hd => ?_
    have := List.all_eq_true.mp h d hd
    split at this
    · cases this
    · cases this
    · rename_i n1 n2
      exact ⟨fun e => n1 e, fun xs e => n2 xs e⟩
def oSrt : List D → Option D
  | [.lst l] => if plL l 39 = true ∧ alkB (toPL l) = true ∧ srtB (toPL l) = true then some (.lst (srtD l)) else none
  | _ => none
theorem calls_srt : CallS G foH (rSrt G.K) oSrt := by
  intro c O H fs ds vs z Q h e q
  match ds, e with
  | [.lst l], e =>
    simp only [oSrt] at e
    split at e
    · rename_i hc
      cases e
      obtain ⟨f, v, rfl, rfl, a, xs, rfl, e1, r1⟩ := h.one
      refine ⟨a, xs, toPL l, rfl, SqL.of e1, RL.dp l ⟨39, hc.1⟩ _ r1, alkB_ok hc.2.1, srtB_ok hc.2.2, fun d hd => ?_, fun p hp => q.new p _ hp ⟨_, rfl, srt_r r1⟩⟩
      rw [toPL_map] at hd
      obtain ⟨x, hx, rfl⟩ := List.mem_map.mp hd
      have h4 := hc.1
      rw [plL_all] at h4
      exact Nat.le_trans (pl_plain x 39 (List.all_eq_true.mp h4 x hx)).2 (by decide)
    · cases e
theorem de_srt (g : Gd G N sc k W X) {p pos : Pos} {e : Expr} {ea : En → Rs (List D)} (hm : G.mg "sorted" = none) (ha : PA X [e] (TAv G W F F1 [f] ea)) (hx : glbB sc "sorted" = true := by rfl) (he : starEach [e] X.env = [(false, eval e X.env)] := by rfl) :
    PE X (.Call (.Name "sorted" p) [e] [] pos) (TEv G W F F1 (.uq f.dp) (eBi oSrt ea)) :=
  de_callB g.toGv (fo := foH) (id := "sorted") (by rw [← g.K]; exact cr_srt g.un) calls_srt hm (by decide +kernel) ha hx (by decide) he rfl
/-- sorted(d), d a dict of texts -/
def strsK : List Key → Option (List Str)
  | [] => some []
  | .inr x :: ks => (strsK ks).map (x :: ·)
  | .inl _ :: _ => none
theorem strsK_ok : ∀ {ks : List Key} {xs : List Str}, strsK ks = some xs → ks = xs.map Sum.inr
  | [], xs, e => by cases e; rfl
  | .inr x :: ks, xs, e => by
    obtain ⟨ys, e1, rfl⟩ := Option.map_eq_some_iff.mp e
    rw [strsK_ok e1]
    rfl
  | .inl _ :: _, _, e => by cases e
def leS (x y : Str) : Bool := decide (x.cps.toList ≤ y.cps.toList)
def srtS (xs : List Str) : List Str := xs.mergeSort leS
theorem leS_trans (a b c : Str) (h : leS a b = true) (h' : leS b c = true) : leS a c = true := by
  unfold leS at *
  rw [decide_eq_true_eq] at *
  exact List.le_trans h h'
theorem leS_total (a b : Str) : (leS a b || leS b a) = true := by
  unfold leS
  rw [Bool.or_eq_true, decide_eq_true_eq, decide_eq_true_eq]
  exact List.le_total _ _
theorem leS_anti {a b : Str} (h : leS a b = true) (h' : leS b a = true) : a = b := by
  unfold leS at *
  rw [decide_eq_true_eq] at *
  have e : a.cps.toList = b.cps.toList := List.le_antisymm h h'
  obtain ⟨x⟩ := a
  obtain ⟨y⟩ := b
  have : x = y := Array.toList_inj.mp e
  rw [this]
theorem srtS_pw (xs : List Str) : (srtS xs).Pairwise fun a b => leS a b = true := List.pairwise_mergeSort leS_trans leS_total xs
theorem srtS_perm (xs : List Str) : (srtS xs).Perm xs := List.mergeSort_perm _ _
theorem rising_pw : ∀ {r : List Str} {p : Str}, risingS p r = true → (∀ x, x ∈ r → leS p x = true) ∧ r.Pairwise fun a b => leS a b = true
  | [], p, _ => ⟨(fun x h => by cases h), List.Pairwise.nil⟩
  | x :: r, p, h => by
    unfold risingS at h
    rw [Bool.and_eq_true] at h
    obtain ⟨h1, h2⟩ := rising_pw h.2
    have hx : leS p x = true := by
      have q := h.1
      rw [ltCps_eq] at q
      unfold leS
      rw [decide_eq_true_eq]
      simp at q
      exact q
    refine ⟨fun y hy => ?_, List.Pairwise.cons h1 h2⟩
    rcases List.mem_cons.mp hy with e | hy
    · rw [e]; exact hx
    · exact leS_trans _ _ _ hx (h1 y hy)
theorem srtS_of {ys xs : List Str} (h : ys.Perm xs) (s : sortedS ys = true) : ys = srtS xs := by
  refine List.Perm.eq_of_pairwise (le := fun a b => leS a b = true) (fun a b _ _ h1 h2 => leS_anti h1 h2) ?_ (srtS_pw xs) (h.trans (srtS_perm xs).symm)
  cases ys with
  | nil => exact List.Pairwise.nil
  | cons y ys => exact List.Pairwise.cons (rising_pw s).1 (rising_pw s).2
def intsK : List Key → Option (List Int)
  | [] => some []
  | .inl x :: ks => (intsK ks).map (x :: ·)
  | .inr _ :: _ => none
theorem intsK_ok : ∀ {ks : List Key} {xs : List Int}, intsK ks = some xs → ks = xs.map Sum.inl
  | [], xs, e => by cases e; rfl
  | .inl x :: ks, xs, e => by
    obtain ⟨ys, e1, rfl⟩ := Option.map_eq_some_iff.mp e
    rw [intsK_ok e1]
    rfl
  | .inr _ :: _, _, e => by cases e
def srtI (xs : List Int) : List Int := xs.mergeSort fun a b => decide (a ≤ b)
theorem srtI_pw (xs : List Int) : (srtI xs).Pairwise (· ≤ ·) := (List.pairwise_mergeSort (fun a b c h h' => by rw [decide_eq_true_eq] at *; omega) (fun a b => by rw [Bool.or_eq_true, decide_eq_true_eq, decide_eq_true_eq]; omega) xs).imp fun h => of_decide_eq_true h
theorem srtI_perm (xs : List Int) : (srtI xs).Perm xs := List.mergeSort_perm _ _
theorem srtI_of {ys xs : List Int} (h : ys.Perm xs) (s : ys.Pairwise (· ≤ ·)) : ys = srtI xs :=
  List.Perm.eq_of_pairwise (le := fun a b : Int => a ≤ b) (fun a b _ _ h1 h2 => by omega) s (srtI_pw xs) (h.trans (srtI_perm xs).symm)
/-- sorted(d), d a dict of texts, or of whole numbers -/
def oSrtD : List D → Option D
  | [.dct ks _] => match strsK ks with
    | some xs => if xs.length < 64 then some (.lst ((srtS xs).map .str)) else none
    | none => none
  | _ => none
def oSrtI : List D → Option D
  | [.dct ks _] => match intsK ks with
    | some xs => if xs.length < 64 then some (.lst ((srtI xs).map .int)) else none
    | none => none
  | _ => none
theorem RL.strs {A : Addr → Prop} : ∀ xs : List Str, RL G A H (xs.map .str) (xs.map .str)
  | [] => rfl
  | _ :: xs => RL.cons rfl (RL.strs xs)
theorem calls_srtD : CallS G foL (fun xs H Q => ∃ (a : Addr) (kvs : List (Key × V)) (ks : List Str), xs = [.ref a] ∧ Rd H a (.dK kvs) ∧ kvs.map (·.1) = ks.map Sum.inr ∧ ks.length < 64 ∧
    ∀ ys p, ys.Perm ks → sortedS ys = true → H p = none → Q (.ref p) (upd H p (.lst (ys.map V.str)))) oSrtD := by
  intro c O H fs ds vs z Q h e q
  match ds, e with
  | [.dct ks l], e =>
    simp only [oSrtD] at e
    split at e
    · rename_i xs ex
      split at e
      · rename_i hl
        cases e
        obtain ⟨f, v, rfl, rfl, a, kvs, rfl, r1, rfl, rl⟩ := h.one
        refine ⟨a, kvs, xs, rfl, r1, strsK_ok ex, hl, fun ys p h1 h2 hp => ?_⟩
        rw [srtS_of h1 h2]
        exact q.new p _ hp ⟨_, rfl, RL.strs _⟩
      · cases e
    · cases e
theorem calls_srtI : CallS G foL (fun xs H Q => ∃ (a : Addr) (kvs : List (Key × V)) (ks : List Int), xs = [.ref a] ∧ Rd H a (.dK kvs) ∧ kvs.map (·.1) = ks.map Sum.inl ∧ ks.length < 64 ∧
    ∀ (ys : List Int) (p : Addr), ys.Perm ks → ys.Pairwise (· ≤ ·) → H p = none → Q (.ref p) (upd H p (.lst (ys.map V.int)))) oSrtI := by
  intro c O H fs ds vs z Q h e q
  match ds, e with
  | [.dct ks l], e =>
    simp only [oSrtI] at e
    split at e
    · rename_i xs ex
      split at e
      · rename_i hl
        cases e
        obtain ⟨f, v, rfl, rfl, a, kvs, rfl, r1, rfl, rl⟩ := h.one
        refine ⟨a, kvs, xs, rfl, r1, intsK_ok ex, hl, fun ys p h1 h2 hp => ?_⟩
        rw [srtI_of h1 h2]
        exact q.new p _ hp ⟨_, rfl, RL.ints _⟩
      · cases e
    · cases e
theorem de_srtD (g : Gd G N sc k W X) {p pos : Pos} {e : Expr} {ea : En → Rs (List D)} (hm : G.mg "sorted" = none) (ha : PA X [e] (TAv G W F F1 [f] ea)) (hx : glbB sc "sorted" = true := by rfl) (he : starEach [e] X.env = [(false, eval e X.env)] := by rfl) :
    PE X (.Call (.Name "sorted" p) [e] [] pos) (TEv G W F F1 (.uq true) (eBi oSrtD ea)) :=
  de_callB g.toGv (fo := foL) (id := "sorted") (call_sortedD g.calm) calls_srtD hm (by decide +kernel) ha hx (by decide) he rfl
theorem de_srtI (g : Gd G N sc k W X) {p pos : Pos} {e : Expr} {ea : En → Rs (List D)} (hm : G.mg "sorted" = none) (ha : PA X [e] (TAv G W F F1 [f] ea)) (hx : glbB sc "sorted" = true := by rfl) (he : starEach [e] X.env = [(false, eval e X.env)] := by rfl) :
    PE X (.Call (.Name "sorted" p) [e] [] pos) (TEv G W F F1 (.uq true) (eBi oSrtI ea)) :=
  de_callB g.toGv (fo := foL) (id := "sorted") (call_sortedDI g.calm) calls_srtI hm (by decide +kernel) ha hx (by decide) he rfl
end
end Pi
namespace Pi
open PySem PySem.Spec PyProof.Rows L2
/-! ### texts: methods, slices -/
section
variable {G : Gb} {S : Se} {W : WX} {N : List Str} {sc scope : Scope} {k : Nat} {X : Cx} {F F1 F2 F3 F4 Fh : List SF} {Fo : List SF} {f f1 f2 : VF} {c : Fr} {en : En} {own own0 own1 : Own} {σ : L2.St} {H H' H0 H1 : Hp}
def isSt : D → Bool
  | .str _ => true
  | _ => false
theorem isSt_v {A : Addr → Prop} {d : D} {v : V} (h : isSt d = true) (r : RB G A H d v) : ∃ a, v = .str a := by
  cases d <;> first | (cases h; done) | skip
  exact ⟨_, r⟩
def eM0 (op : D → Option D) (a : EvE) : EvE := fun en => bnd (a en) fun x => if isSt x = true then ofO (op x) else .error .stuck
def eM1 (op : D → D → Option D) (a b : EvE) : EvE := fun en => bnd (a en) fun x => if isSt x = true then bnd (b en) fun y => ofO (op x y) else .error .stuck
/-- a rule for a method serves op on data -/
def MS0 (G : Gb) (fo : VF) (r : V → List V → Hp → VK → Prop) (op : D → Option D) : Prop := ∀ (c : Fr) (O : Addr → Prop) (H : Hp) (x z : D) (v1 : V) (p1 : Bool) (Q : VK), RB G (Av c O p1) H x v1 → op x = some z → Kp G c O H fo z Q → r v1 [] H Q
def MS1 (G : Gb) (fo : VF) (r : V → List V → Hp → VK → Prop) (op : D → D → Option D) : Prop := ∀ (c : Fr) (O : Addr → Prop) (H : Hp) (x y z : D) (v1 v2 : V) (p1 p2 : Bool) (Q : VK), RB G (Av c O p1) H x v1 → RB G (Av c O p2) H y v2 → op x y = some z → Kp G c O H fo z Q → r v1 [v2] H Q
theorem m0_core {fo : VF} {r : V → List V → Hp → VK → Prop} {op : D → Option D} {ea : EvE} (h : MS0 G fo r op) : ∀ σ H Q, TEv G W F F1 fo (eM0 op ea) σ H Q → tM0 r (TEv G W F F1 f1 ea) σ H Q := by
  rintro σ H Q ⟨c, en, own, ok, m⟩
  refine ⟨c, en, own, ok, m.bnd.imp fun x _ mx v1 H1 own1 ok1 s1 b1 r1 => ?_⟩
  split at mx
  · rename_i hs
    obtain ⟨z, ez, q⟩ := mx.ofO
    exact ⟨isSt_v hs r1.b, h c _ H1 x z v1 _ Q r1.b ez (ok1.kp fun v H3 own3 ok3 s3 b3 r3 => q v H3 own3 ok3 (s1.trans s3) (sub_trans b1 s1 b3) r3)⟩
  · exact mx.elim
theorem m1_core {fo : VF} {r : V → List V → Hp → VK → Prop} {op : D → D → Option D} {ea eb : EvE} (h : MS1 G fo r op) : ∀ σ H Q, TEv G W F F2 fo (eM1 op ea eb) σ H Q → tM1 r (TEv G W F F1 f1 ea) (TEv G W F1 F2 f2 eb) σ H Q := by
  rintro σ H Q ⟨c, en, own, ok, m⟩
  refine ⟨c, en, own, ok, m.bnd.imp fun x _ mx v1 H1 own1 ok1 s1 b1 r1 => ?_⟩
  split at mx
  · rename_i hs
    refine ⟨isSt_v hs r1.b, c, en, own1, ok1, mx.bnd.imp fun y _ my v2 H2 own2 ok2 s2 b2 r2 => ?_⟩
    obtain ⟨z, ez, q⟩ := my.ofO
    exact h c _ H2 x y z v1 v2 _ _ Q (RB.grow r1.b s2 b2) r2.b ez (ok2.kp fun v H3 own3 ok3 s3 b3 r3 => q v H3 own3 ok3 ((s1.trans s2).trans s3) (sub_trans (sub_trans b1 s1 b2) (s1.trans s2) b3) r3)
  · exact mx.elim
/-! find, count, startswith -/
def oFind : D → D → Option D
  | .str a, .str b => some (.int (Txt.find a b))
  | _, _ => none
def oSplit : D → D → Option D
  | .str a, .str b => if (b.length == 0) = false ∧ a.length + 2 ≤ sizeLine then some (.lst ((Txt.split a b).map .str)) else none
  | _, _ => none
def oPart : D → D → Option D
  | .str a, .str b => if (b.length == 0) = false ∧ a.length ≤ sizeLine then some (.tup [.str (Txt.partition a b).1, .str (Txt.partition a b).2.1, .str (Txt.partition a b).2.2]) else none
  | _, _ => none
def oStrip : D → Option D
  | .str a => if a.length ≤ sizeLine then some (.str (Txt.strip a)) else none
  | _ => none
def strsL : List D → Option (List Str)
  | [] => some []
  | .str x :: l => (strsL l).map (x :: ·)
  | _ :: _ => none
theorem strsL_v {A : Addr → Prop} : ∀ {l : List D} {xs : List Str} {vs : List V}, strsL l = some xs → RL G A H l vs → vs = xs.map V.str
  | [], xs, vs, e, h => by cases e; exact h
  | .str x :: l, xs, vs, e, h => by
    obtain ⟨ys, e1, rfl⟩ := Option.map_eq_some_iff.mp e
    obtain ⟨v, r, rfl, h1, h2⟩ := h
    rw [strsL_v e1 h2, show v = V.str x from h1]
    rfl
  | .non :: _, _, _, e, _ => by cases e
  | .bl _ :: _, _, _, e, _ => by cases e
  | .int _ :: _, _, _, e, _ => by cases e
  | .tup _ :: _, _, _, e, _ => by cases e
  | .lst _ :: _, _, _, e, _ => by cases e
  | .dct _ _ :: _, _, _, e, _ => by cases e
  | .obj _ _ :: _, _, _, e, _ => by cases e
  | .exc _ :: _, _, _, e, _ => by cases e
  | .scr _ :: _, _, _, e, _ => by cases e
def oJoin : D → D → Option D
  | .str a, .lst l => (strsL l).bind fun ys => if (ys.map (·.length)).sum + ys.length * a.length ≤ 16777216 then some (.str (Txt.join a ys)) else none
  | _, _ => none
theorem ms_find : MS1 G (.uq true) (fun x xs H Q => ∃ a b, x = .str a ∧ xs = [.str b] ∧ Q (.int (Txt.find a b)) H) oFind := by
  intro c O H x y z v1 v2 p1 p2 Q h1 h2 e q
  cases x <;> first | (cases e; done) | skip
  cases y <;> first | (cases e; done) | skip
  cases e
  exact ⟨_, _, h1, by rw [show v2 = _ from h2], q.int⟩
theorem ms_split : MS1 G (.uq true) (fun x xs H Q => ∃ a b, x = .str a ∧ xs = [.str b] ∧ (b.length == 0) = false ∧ a.length + 2 ≤ sizeLine ∧ rNewStrs (Txt.split a b) H Q) oSplit := by
  intro c O H x y z v1 v2 p1 p2 Q h1 h2 e q
  cases x <;> first | (cases e; done) | skip
  cases y <;> first | (cases e; done) | skip
  simp only [oSplit] at e
  split at e
  · rename_i hc
    cases e
    exact ⟨_, _, h1, by rw [show v2 = _ from h2], hc.1, hc.2, fun p hp => q.new p _ hp ⟨_, rfl, RL.strs _⟩⟩
  · cases e
theorem ms_part : MS1 G (.uq true) (fun x xs H Q => ∃ a b, x = .str a ∧ xs = [.str b] ∧ (b.length == 0) = false ∧ a.length ≤ sizeLine ∧
      ∀ p, H p = none → Q (.ref p) (upd H p (.tup [.str (Txt.partition a b).1, .str (Txt.partition a b).2.1, .str (Txt.partition a b).2.2]))) oPart := by
  intro c O H x y z v1 v2 p1 p2 Q h1 h2 e q
  cases x <;> first | (cases e; done) | skip
  cases y <;> first | (cases e; done) | skip
  simp only [oPart] at e
  split at e
  · rename_i hc
    cases e
    exact ⟨_, _, h1, by rw [show v2 = _ from h2], hc.1, hc.2, fun p hp => q.new p _ hp ⟨_, rfl, RL.cons rfl (RL.cons rfl (RL.cons rfl RL.nil))⟩⟩
  · cases e
theorem ms_strip : MS0 G (.uq true) (fun x xs H Q => ∃ a, x = .str a ∧ xs = [] ∧ a.length ≤ sizeLine ∧ Q (.str (Txt.strip a)) H) oStrip := by
  intro c O H x z v1 p1 Q h1 e q
  cases x <;> first | (cases e; done) | skip
  simp only [oStrip] at e
  split at e
  · rename_i hc
    cases e
    exact ⟨_, h1, rfl, hc, q.str⟩
  · cases e
theorem ms_join : MS1 G (.uq true) (fun x xs H Q => ∃ a p, ∃ ys : List Str, x = .str a ∧ xs = [.ref p] ∧ (SqL G.K H p (ys.map V.str) ∨ SqT G.K H p (ys.map V.str)) ∧
      (ys.map (·.length)).sum + ys.length * a.length ≤ 16777216 ∧ Q (.str (Txt.join a ys)) H) oJoin := by
  intro c O H x y z v1 v2 p1 p2 Q h1 h2 e q
  cases x <;> first | (cases e; done) | skip
  cases y <;> first | (cases e; done) | skip
  obtain ⟨ys, e1, e2⟩ := Option.bind_eq_some_iff.mp e
  split at e2
  · rename_i hc
    cases e2
    obtain ⟨a, xs, rfl, g1, g2⟩ := h2
    have ev := strsL_v e1 g2
    subst ev
    exact ⟨_, a, ys, h1, rfl, .inl (SqL.of g1), hc, q.str⟩
  · cases e2
theorem de_find {o e : Expr} {apos pos : Pos} {ea eb : EvE} (ho : PE X o (TEv G W F F1 f1 ea)) (he : PE X e (TEv G W F1 F2 f2 eb)) (hs : starEach [e] X.env = [(false, eval e X.env)] := by rfl) (hbase : attributeBase o "find" X.env (eval o X.env) = eval o X.env := by rfl) (hline : (apos.endLine == pos.line) = true := by rfl) :
    PE X (.Call (.Attribute o "find" apos) [e] [] pos) (TEv G W F F2 (.uq true) (eM1 oFind ea eb)) := pe_imp (pe_m1 PySem.F.slot_str_find PySem.F.type_str_find mt_find ho he hs hbase hline) (m1_core ms_find)
theorem de_split {o e : Expr} {apos pos : Pos} {ea eb : EvE} (ho : PE X o (TEv G W F F1 f1 ea)) (he : PE X e (TEv G W F1 F2 f2 eb)) (hs : starEach [e] X.env = [(false, eval e X.env)] := by rfl) (hbase : attributeBase o "split" X.env (eval o X.env) = eval o X.env := by rfl) (hline : (apos.endLine == pos.line) = true := by rfl) :
    PE X (.Call (.Attribute o "split" apos) [e] [] pos) (TEv G W F F2 (.uq true) (eM1 oSplit ea eb)) := pe_imp (pe_split ho he hs hbase hline) (m1_core ms_split)
theorem de_part {o e : Expr} {apos pos : Pos} {ea eb : EvE} (ho : PE X o (TEv G W F F1 f1 ea)) (he : PE X e (TEv G W F1 F2 f2 eb)) (hs : starEach [e] X.env = [(false, eval e X.env)] := by rfl) (hbase : attributeBase o "partition" X.env (eval o X.env) = eval o X.env := by rfl) (hline : (apos.endLine == pos.line) = true := by rfl) :
    PE X (.Call (.Attribute o "partition" apos) [e] [] pos) (TEv G W F F2 (.uq true) (eM1 oPart ea eb)) := pe_imp (pe_partition ho he hs hbase hline) (m1_core ms_part)
theorem de_strip {o : Expr} {apos pos : Pos} {ea : EvE} (ho : PE X o (TEv G W F F1 f1 ea)) (hbase : attributeBase o "strip" X.env (eval o X.env) = eval o X.env := by rfl) (hline : (apos.endLine == pos.line) = true := by rfl) :
    PE X (.Call (.Attribute o "strip" apos) [] [] pos) (TEv G W F F1 (.uq true) (eM0 oStrip ea)) := pe_imp (pe_strip ho hbase hline) (m0_core ms_strip)
theorem de_join (g : Gv G N sc X) {o e : Expr} {apos pos : Pos} {ea eb : EvE} (ho : PE X o (TEv G W F F1 f1 ea)) (he : PE X e (TEv G W F1 F2 f2 eb)) (hs : starEach [e] X.env = [(false, eval e X.env)] := by rfl) (hbase : attributeBase o "join" X.env (eval o X.env) = eval o X.env := by rfl) (hline : (apos.endLine == pos.line) = true := by rfl) :
    PE X (.Call (.Attribute o "join" apos) [e] [] pos) (TEv G W F F2 (.uq true) (eM1 oJoin ea eb)) := by
  refine pe_imp (pe_join ho he hs hbase hline) ?_
  rw [g.K]
  exact m1_core ms_join
/-! ### slices -/
def TOv (G : Gb) (W : WX) (F F' : List SF) (ev : En → Rs (Option Int)) : TO := fun σ H Q => ∃ (c : Fr) (en : En) (own : Own), Ok G c F en own σ H ∧
  Mt G W c σ (ev en) fun o => ∀ H' own', Ok G c F' en own' σ H' → Same H H' → Sub (ow own) (ow own') H → Q o H'
def oNo : En → Rs (Option Int) := fun _ => .ok none
def oYes (a : EvE) : En → Rs (Option Int) := fun en => bnd (a en) fun d => match d with
  | .int i => .ok (some i)
  | _ => .error .stuck
theorem po_imp {X : Cx} {e : Option Expr} {t t' : TO} (h : PO X e t) (m : ∀ σ H Q, t' σ H Q → t σ H Q) : PO X e t' := ⟨fun pins s σ H Q I q => h.run pins s σ H Q I (m σ H Q q)⟩
theorem do_no : PO X none (TOv G W F F oNo) := by
  refine po_imp po_none ?_
  rintro σ H Q ⟨c, en, own, ok, m⟩
  exact m H own ok (Same.refl H) sub_refl
theorem do_yes {e : Expr} {ea : EvE} (h : PE X e (TEv G W F F1 f ea)) : PO X (some e) (TOv G W F F1 (oYes ea)) := by
  refine po_imp (po_some h) ?_
  rintro σ H Q ⟨c, en, own, ok, m⟩
  refine ⟨c, en, own, ok, m.bnd.imp fun d hd mx v1 H1 own1 ok1 s1 b1 r1 => ?_⟩
  clear hd
  cases d <;> first | exact mx.elim | skip
  exact ⟨_, r1.int, mx H1 own1 ok1 s1 b1⟩
def cutD (xs : List D) (lo hi : Option Int) : List D := (xs.drop (HT.sIx xs.length 0 lo)).take (HT.sIx xs.length xs.length hi - HT.sIx xs.length 0 lo)
def oSl : D → Option Int → Option Int → Option D
  | .str z, lo, hi => if z.length ≤ sizeLine then some (.str (Txt.slice z lo hi)) else none
  | .lst l, lo, hi => some (.lst (cutD l lo hi))
  | .scr l, lo, hi => some (.lst (cutD (l.map .int) lo hi))
  | _, _, _ => none
def eSl (a : EvE) (lo hi : En → Rs (Option Int)) : EvE := fun en => bnd (a en) fun x => bnd (lo en) fun l => bnd (hi en) fun h => ofO (oSl x l h)
theorem cut_r {A : Addr → Prop} {l : List D} {xs : List V} (h : RL G A H l xs) (lo hi : Option Int) : RL G A H (cutD l lo hi) (cutV xs lo hi) := by
  unfold cutD cutV
  rw [h.len]
  exact RL.take _ (RL.drop _ h)
theorem de_sl (g : Gv G N sc X) {e : Expr} {lo hi : Option Expr} {pos p2 : Pos} {ea : EvE} {el eh : En → Rs (Option Int)} (he : PE X e (TEv G W F F1 f ea)) (hl : PO X lo (TOv G W F1 F2 el)) (hh : PO X hi (TOv G W F2 F3 eh)) :
    PE X (.Subscript e (.Slice lo hi none p2) pos) (TEv G W F F3 (.uq f.dp) (eSl ea el eh)) := by
  refine pe_imp (pe_slice (SlR.or sl_list C8.sl_txt) he hl hh) ?_
  rw [g.K]
  rintro σ H Q ⟨c, en, own, ok, m⟩
  refine ⟨c, en, own, ok, m.bnd.imp fun x hx m v1 H1 own1 ok1 s1 b1 r1 => ⟨c, en, own1, ok1, m.bnd.imp fun l _ m H2 own2 ok2 s2 b2 => ⟨c, en, own2, ok2, m.bnd.imp fun h _ m H3 own3 ok3 s3 b3 => ?_⟩⟩⟩
  clear hx
  obtain ⟨z, ez, q⟩ := m.ofO
  have s12 := s1.trans s2
  have b12 := sub_trans b1 s1 b2
  have kp : Kp G c (ow own3) H3 (.uq f.dp) z Q := ok3.kp fun v H4 own4 ok4 s4 b4 r4 => q v H4 own4 ok4 ((s12.trans s3).trans s4) (sub_trans (sub_trans b12 s12 b3) (s12.trans s3) b4) r4
  have r3 : RB G (Av c (ow own3) f.dp) H3 x v1 := RB.grow r1.b (s2.trans s3) (sub_trans b2 s2 b3)
  cases x <;> first | (cases ez; done) | skip
  · simp only [oSl] at ez
    split at ez
    · rename_i hz
      cases ez
      exact .inr ⟨_, r3, hz, kp.str⟩
    · cases ez
  · cases ez
    obtain ⟨a, xs, rfl, g1, g2⟩ := r3
    exact .inl ⟨a, xs, rfl, SqL.of g1, fun p hp => kp.new p _ hp ⟨_, rfl, cut_r g2 _ _⟩⟩
  · cases ez
    obtain ⟨a, rfl, g1⟩ := r3
    exact .inl ⟨a, _, rfl, g1.sq, fun p hp => kp.new p _ hp ⟨_, rfl, cut_r (RL.ints _) _ _⟩⟩
/-! ### texts by the order of their signs; a text within a text -/
def oSI : D → D → Option D
  | .str x, .str y => some (.bl (!(Builtin.Str.occurrences y x 0 y.length 1).isEmpty))
  | _, _ => none
theorem ops_si : OpS G foT (fun x y H Q => ∃ i j, x = .str i ∧ y = .str j ∧ Q (.bl (!(Builtin.Str.occurrences j i 0 j.length 1).isEmpty)) H) oSI := by
  intro c O H x y z v1 v2 p1 p2 Q h1 h2 e q
  cases x <;> first | (cases e; done) | skip
  cases y <;> first | (cases e; done) | skip
  cases e
  exact ⟨_, _, h1, h2, q.bl⟩
/-- list(text) -/
def oListS : List D → Option D
  | [.str x] => some (.lst (signs x))
  | _ => none
end
end Pi
namespace Pi
open PySem PySem.Spec PyProof.Rows L2
/-! ### tuples that are equal item by item, within one model -/
section
open PySem.SeqAt AutoSeq1 MeetsSeq MeetsSeq2 MeetsSeq3 SeqRoads2
variable {prog : Program} {w : World}
/-- all pairs are equal -/
def AllP (prog : Program) (w : World) (A : Around) (s : Shared) (us ws : Array Value) : Prop := ∀ p, p ∈ us.toList.zip ws.toList → EqP prog w A s p.1 p.2 true
theorem tup_eq (a b : Addr) (us ws : Array Value) (m m2 : Nat) (d1 d2 : Option Addr) (t1 t2 : Array (Option Value)) (hs : us.size = ws.size) :
    MeetsIn prog w (Builtin.«tuple.__eq__» ⟨[.ref a, .ref b], []⟩) (fun A R s => s.heap.get? a = some { cls := .type "tuple", dict := d1, data := .seq us m, slots := t1 } ∧
      s.heap.get? b = some { cls := .type "tuple", dict := d2, data := .seq ws m2, slots := t2 } ∧ AllP prog w A.in1 s us ws ∧ R (.ok (.ret (.bool true))) s) := by
  intro A R s q
  obtain ⟨hp, g, d, tk, os⟩ := s
  obtain ⟨ha, hb, he, q⟩ := q
  have sub := AutoSeq1.sub_tuple_tuple
  wp_walk using wpAny_loadPart' ha, wpAny_loadPart' hb, wpAny_forIn_list _ (fun rest b s' => b.1 = none ∧ s' = ⟨hp, g, d, tk, os⟩ ∧ ∀ p, p ∈ rest → p ∈ us.toList.zip ws.toList) _
  case turn =>
    rintro ⟨y, x⟩ rest b s' ⟨e1, rfl, hin⟩
    refine wpAny_bind (he (y, x) (hin _ List.mem_cons_self) _ _ ?_)
    wp_walk
    exact ⟨rfl, rfl, fun p hp => hin p (List.mem_cons_of_mem _ hp)⟩
  case fin =>
    rintro ⟨b1, b2⟩ s' ⟨e1, rfl, _⟩
    simp only at e1
    subst e1
    wp_walk
    simpa [Builtin.Tuple.tupleCompareSizes, hs, bne] using q
  case h => exact ⟨rfl, rfl, fun p hp => hp⟩
theorem tup_ne (a b : Addr) (us ws : Array Value) (m m2 : Nat) (d1 d2 : Option Addr) (t1 t2 : Array (Option Value)) (hs : us.size = ws.size) :
    MeetsIn prog w (Builtin.«tuple.__ne__» ⟨[.ref a, .ref b], []⟩) (fun A R s => s.heap.get? a = some { cls := .type "tuple", dict := d1, data := .seq us m, slots := t1 } ∧
      s.heap.get? b = some { cls := .type "tuple", dict := d2, data := .seq ws m2, slots := t2 } ∧ AllP prog w A.in1 s us ws ∧ R (.ok (.ret (.bool false))) s) := by
  intro A R s q
  obtain ⟨hp, g, d, tk, os⟩ := s
  obtain ⟨ha, hb, he, q⟩ := q
  have sub := AutoSeq1.sub_tuple_tuple
  wp_walk using wpAny_loadPart' ha, wpAny_loadPart' hb, wpAny_forIn_list _ (fun rest b s' => b.1 = none ∧ s' = ⟨hp, g, d, tk, os⟩ ∧ ∀ p, p ∈ rest → p ∈ us.toList.zip ws.toList) _
  case turn =>
    rintro ⟨y, x⟩ rest b s' ⟨e1, rfl, hin⟩
    refine wpAny_bind (he (y, x) (hin _ List.mem_cons_self) _ _ ?_)
    wp_walk
    exact ⟨rfl, rfl, fun p hp => hin p (List.mem_cons_of_mem _ hp)⟩
  case fin =>
    rintro ⟨b1, b2⟩ s' ⟨e1, rfl, _⟩
    simp only at e1
    subst e1
    wp_walk
    simpa [Builtin.Tuple.tupleCompareSizes, hs, bne] using q
  case h => exact ⟨rfl, rfl, fun p hp => hp⟩
theorem tups_eq {A : Around} {s : Shared} {a b : Addr} {us ws : Array Value} (ha : s.heap.IsTuple a us) (hb : s.heap.IsTuple b ws) (hs : us.size = ws.size) (hu : A.units < cLine) (he : AllP prog w A.in1 s us ws) (E Q : Value → Shared → Prop) (q : Q (.bool true) s) :
    wpAny (model prog w) A (richCompare .Eq (.ref a) (.ref b)) Q E s := by
  obtain ⟨⟨c1, d1, x1, t1⟩, o1, k1, m1, y1⟩ := id ha
  obtain ⟨⟨c2, d2, x2, t2⟩, o2, k2, m2, y2⟩ := id hb
  simp only at k1 y1 k2 y2
  subst k1 y1 k2 y2
  have z1 : s.TypeIs (.ref a) "tuple" := ⟨_, o1, rfl⟩
  have z2 : s.TypeIs (.ref b) "tuple" := ⟨_, o2, rfl⟩
  have fin : Value.bool true ≠ Value.notImplemented ∧ Q (.bool true) s := ⟨fun x => (nomatch x), q⟩
  exact wpAny_richCompare_same_room (op := .Eq) z1 z2 PySem.F.slot_tuple_eq (call_meetsIn PySem.F.slot_tuple_eq z1 PySem.F.entry_tuple_eq (PySem.F.args_tuple_eq_2 _ _) (tup_eq a b us ws m1 m2 d1 d2 t1 t2 hs) ⟨o1, o2, he, fin⟩) hu
theorem tups_ne {A : Around} {s : Shared} {a b : Addr} {us ws : Array Value} (ha : s.heap.IsTuple a us) (hb : s.heap.IsTuple b ws) (hs : us.size = ws.size) (hu : A.units < cLine) (he : AllP prog w A.in1 s us ws) (E Q : Value → Shared → Prop) (q : Q (.bool false) s) :
    wpAny (model prog w) A (richCompare .NotEq (.ref a) (.ref b)) Q E s := by
  obtain ⟨⟨c1, d1, x1, t1⟩, o1, k1, m1, y1⟩ := id ha
  obtain ⟨⟨c2, d2, x2, t2⟩, o2, k2, m2, y2⟩ := id hb
  simp only at k1 y1 k2 y2
  subst k1 y1 k2 y2
  have z1 : s.TypeIs (.ref a) "tuple" := ⟨_, o1, rfl⟩
  have z2 : s.TypeIs (.ref b) "tuple" := ⟨_, o2, rfl⟩
  have fin : Value.bool false ≠ Value.notImplemented ∧ Q (.bool false) s := ⟨fun x => (nomatch x), q⟩
  exact wpAny_richCompare_same_room (op := .NotEq) z1 z2 PySem.F.slot_tuple_ne (call_meetsIn PySem.F.slot_tuple_ne z1 PySem.F.entry_tuple_ne (PySem.F.args_tuple_ne_2 _ _) (tup_ne a b us ws m1 m2 d1 d2 t1 t2 hs) ⟨o1, o2, he, fin⟩) hu
end
/-! ### what is equal all the way down: lists, tuples, dicts -/
def EqT (K : PySem.W.Frag) (H : Hp) (E : V → V → Prop) (x y : V) : Prop :=
  (∃ a b xs ys, x = .ref a ∧ y = .ref b ∧ SqL K H a xs ∧ SqL K H b ys ∧ Paired E xs ys) ∨ (∃ a b xs ys, x = .ref a ∧ y = .ref b ∧ SqT K H a xs ∧ SqT K H b ys ∧ Paired E xs ys) ∨
    ∃ a b ks ls, x = .ref a ∧ y = .ref b ∧ Rd H a (.dK ks) ∧ Rd H b (.dK ls) ∧ ks.length = ls.length ∧ ∀ p, p ∈ ks → ∃ u, valV ls p.1 = some u ∧ E p.2 u
def EqW (K : PySem.W.Frag) (H : Hp) : Nat → V → V → Prop
  | 0 => fun _ _ => False
  | n + 1 => fun x y => (x = y ∧ flatB x = true) ∨ EqT K H (EqW K H n) x y
section
variable {X : Cx} {pins : List (Addr × Obj)} {σ : L2.St} {H : Hp} {s : Shared}
theorem allP_of {F : V → V → Prop} {A : Around} (ih : ∀ x y v u, F x y → RelV x v → RelV y u → SeqAt.EqP X.prog X.w A s v u true) : ∀ {xs ys : List V} {us ws : List Value}, Paired F xs ys → Vals xs us → Vals ys ws → ∀ p, p ∈ us.zip ws → SeqAt.EqP X.prog X.w A s p.1 p.2 true
  | _, _, _, _, .nil, .nil, .nil, p, hp => by cases hp
  | _, _, _, _, .cons h t, .cons r1 k1, .cons r2 k2, p, hp => by
    rcases List.mem_cons.mp hp with e | hp
    · subst e; exact ih _ _ _ _ h r1 r2
    · exact allP_of ih t k1 k2 p hp
theorem eqT_run (I : Inv X pins σ H s) {A : Around} {F : V → V → Prop} (hu : A.units < cLine) (ih : ∀ x y v u, F x y → RelV x v → RelV y u → SeqAt.EqP X.prog X.w A.in1 s v u true) {x y : V} {v u : Value} (h : EqT X.K H F x y) (rx : RelV x v) (ry : RelV y u) (E Q : Value → Shared → Prop) (q : Q (.bool true) s) :
    wpAny (model X.prog X.w) A (richCompare .Eq v u) Q E s := by
  rcases h with ⟨a, b, xs, ys, rfl, rfl, ha, hb, hp⟩ | ⟨a, b, xs, ys, rfl, rfl, ha, hb, hp⟩ | ⟨a, b, ks, ls, rfl, rfl, ha, hb, hl, hp⟩
  · obtain rfl : v = Value.ref a := rx
    obtain rfl : u = Value.ref b := ry
    obtain ⟨us, r1, p1, _⟩ := I.list ha
    obtain ⟨ws, r2, p2, _⟩ := I.list hb
    have hz : us.toArray.size = ws.toArray.size := by
      have e1 := r1.length
      have e2 := r2.length
      have e3 := hp.length
      simp only [List.size_toArray]
      omega
    refine SeqAt.rcP_lists (e := fun _ => true) p1.isList p2.isList hz hu (fun j h1 h2 => ?_) E Q ?_
    · have h1' : j < us.length := by simpa using h1
      have h2' : j < ws.length := by simpa using h2
      have k := allP_of ih hp r1 r2 (us[j], ws[j]) (by rw [List.mem_iff_getElem]; exact ⟨j, by simp; omega, by simp⟩)
      simpa using k
    · rw [show ((List.range us.toArray.size).all fun _ => true) = true from List.all_eq_true.mpr fun _ _ => rfl]
      exact q
  · obtain rfl : v = Value.ref a := rx
    obtain rfl : u = Value.ref b := ry
    obtain ⟨us, r1, p1, _⟩ := I.tuple ha
    obtain ⟨ws, r2, p2, _⟩ := I.tuple hb
    have hz : us.toArray.size = ws.toArray.size := by
      have e1 := r1.length
      have e2 := r2.length
      have e3 := hp.length
      simp only [List.size_toArray]
      omega
    exact tups_eq p1 p2 hz hu (by simpa [AllP] using allP_of ih hp r1 r2) E Q q
  · obtain rfl : v = Value.ref a := rx
    obtain rfl : u = Value.ref b := ry
    obtain ⟨_, ya, va, ra, da⟩ := dk_rd I.hok ha
    obtain ⟨_, yb, vb, rb, db⟩ := dk_rd I.hok hb
    refine PySem.W.rcP_dicts (knd := mixKind X.prog X.w) (r := true) ya yb da db hu (fun _ => hits_run ih rb ra hp) E Q ?_
    have e : va.length = vb.length := by rw [← ra.length, ← rb.length]; exact hl
    rw [show (va.length == vb.length && true) = true from by rw [e]; simp]
    exact q
theorem eqW_run (I : Inv X pins σ H s) : ∀ (n : Nat) (A : Around), A.units + n < cLine → ∀ (x y : V) (v u : Value), EqW X.K H n x y → RelV x v → RelV y u → SeqAt.EqP X.prog X.w A s v u true
  | 0, _, _, _, _, _, _, h, _, _ => (show False from h).elim
  | n + 1, A, hu, x, y, v, u, h, rx, ry => by
    rcases h with ⟨rfl, f⟩ | h
    · exact (eqAt_same rx ry f).eqP
    · have step := eqT_run I (A := A) (by omega) (eqW_run I n A.in1 (by show A.units + 1 + n < cLine; omega)) h rx ry
      obtain ⟨a, b, rfl, rfl⟩ : ∃ a b, x = .ref a ∧ y = .ref b := by
        rcases h with ⟨a, b, _, _, e1, e2, _⟩ | ⟨a, b, _, _, e1, e2, _⟩ | ⟨a, b, _, _, e1, e2, _⟩ <;> exact ⟨a, b, e1, e2⟩
      obtain rfl : v = Value.ref a := rx
      obtain rfl : u = Value.ref b := ry
      by_cases e : a = b
      · subst e
        exact (SeqAt.EqAt.same _).eqP
      · exact SeqAt.eqP_refs e step
def rEqW (K : PySem.W.Frag) : R2 := fun x y H Q => EqT K H (EqW K H 40) x y ∧ Q (.bl true) H
theorem op_eqW (hu : X.A.units + 64 < cLine) : OpR X (compareOp .Eq) (rEqW X.K) := by
  intro pins s σ H x y v u Q I rx ry h
  exact eqT_run I (A := X.A) (by omega) (eqW_run I 40 X.A.in1 (by show X.A.units + 1 + 40 < cLine; omega)) h.1 rx ry _ _ ⟨.bl true, H, I, rfl, h.2⟩
/-- a != b, two tuples that are equal all the way down -/
def rNeW (K : PySem.W.Frag) : R2 := fun x y H Q => (∃ a b xs ys, x = .ref a ∧ y = .ref b ∧ SqT K H a xs ∧ SqT K H b ys ∧ Paired (EqW K H 40) xs ys) ∧ Q (.bl false) H
theorem op_neW (hu : X.A.units + 64 < cLine) : OpR X (compareOp .NotEq) (rNeW X.K) := by
  intro pins s σ H x y v u Q I rx ry h
  obtain ⟨⟨a, b, xs, ys, rfl, rfl, ha, hb, hp⟩, q⟩ := h
  obtain rfl : v = Value.ref a := rx
  obtain rfl : u = Value.ref b := ry
  obtain ⟨us, r1, p1, _⟩ := I.tuple ha
  obtain ⟨ws, r2, p2, _⟩ := I.tuple hb
  have hz : us.toArray.size = ws.toArray.size := by
    have e1 := r1.length
    have e2 := r2.length
    have e3 := hp.length
    simp only [List.size_toArray]
    omega
  exact tups_ne p1 p2 hz (by omega) (by simpa [AllP] using allP_of (eqW_run I 40 X.A.in1 (by show X.A.units + 1 + 40 < cLine; omega)) hp r1 r2) _ _ ⟨.bl false, H, I, rfl, q⟩
end
/-! ### on data -/
mutual
/-- equal all the way down, no deeper than n -/
def eqB : Nat → D → D → Bool
  | _, .non, .non => true
  | _, .bl a, .bl b => decide (a = b)
  | _, .int a, .int b => decide (a = b)
  | _, .str a, .str b => decide (a = b)
  | n + 1, .tup l, .tup m => eqBL n l m
  | n + 1, .lst l, .lst m => eqBL n l m
  | n + 1, .dct ks l, .dct ks' m => decide (ks.length = ks'.length) && eqBD n ks l ks' m
  | _, _, _ => false
def eqBL : Nat → List D → List D → Bool
  | _, [], [] => true
  | n, x :: l, y :: m => eqB n x y && eqBL n l m
  | _, _, _ => false
def eqBD : Nat → List Key → List D → List Key → List D → Bool
  | _, [], [], _, _ => true
  | n, k :: ks, x :: l, ks', m => (match dGet ks' m k with
    | some y => eqB n x y
    | none => false) && eqBD n ks l ks' m
  | _, _, _, _, _ => false
end
section
variable {G : Gb} {A A' : Addr → Prop} {H : Hp}
mutual
theorem eqB_w : ∀ (n : Nat) (x y : D) (v u : V), eqB n x y = true → R G A H x v → R G A' H y u → EqW G.K H (n + 1) v u
  | n, .non, y, v, u, h, rx, ry => by
    cases y <;> first | (simp [eqB] at h; done) | skip
    rw [show v = .non from rx, show u = .non from ry]
    exact .inl ⟨rfl, rfl⟩
  | n, .bl a, y, v, u, h, rx, ry => by
    cases y <;> first | (simp [eqB] at h; done) | skip
    rw [show v = _ from rx, show u = _ from ry]
    rw [eqB, decide_eq_true_eq] at h
    rw [h]
    exact .inl ⟨rfl, rfl⟩
  | n, .int a, y, v, u, h, rx, ry => by
    cases y <;> first | (simp [eqB] at h; done) | skip
    rw [show v = _ from rx, show u = _ from ry]
    rw [eqB, decide_eq_true_eq] at h
    rw [h]
    exact .inl ⟨rfl, rfl⟩
  | n, .str a, y, v, u, h, rx, ry => by
    cases y <;> first | (simp [eqB] at h; done) | skip
    rw [show v = _ from rx, show u = _ from ry]
    rw [eqB, decide_eq_true_eq] at h
    rw [h]
    exact .inl ⟨rfl, rfl⟩
  | 0, .tup l, y, v, u, h, rx, ry => by cases y <;> simp [eqB] at h
  | 0, .lst l, y, v, u, h, rx, ry => by cases y <;> simp [eqB] at h
  | 0, .dct ks l, y, v, u, h, rx, ry => by cases y <;> simp [eqB] at h
  | n + 1, .tup l, y, v, u, h, rx, ry => by
    cases y <;> first | (simp [eqB] at h; done) | skip
    obtain ⟨a, xs, rfl, h1, r1⟩ := rx
    obtain ⟨b, ys, rfl, h2, r2⟩ := ry
    exact .inr (.inr (.inl ⟨a, b, xs, ys, rfl, rfl, h1, h2, eqBL_w n l _ xs ys (by rw [eqB] at h; exact h) r1 r2⟩))
  | n + 1, .lst l, y, v, u, h, rx, ry => by
    cases y <;> first | (simp [eqB] at h; done) | skip
    obtain ⟨a, xs, rfl, _, h1, r1⟩ := rx
    obtain ⟨b, ys, rfl, _, h2, r2⟩ := ry
    exact .inr (.inl ⟨a, b, xs, ys, rfl, rfl, SqL.of h1, SqL.of h2, eqBL_w n l _ xs ys (by rw [eqB] at h; exact h) r1 r2⟩)
  | n + 1, .dct ks l, y, v, u, h, rx, ry => by
    cases y <;> first | (simp [eqB] at h; done) | skip
    obtain ⟨a, xs, rfl, _, h1, rfl, r1⟩ := rx
    obtain ⟨b, ys, rfl, _, h2, rfl, r2⟩ := ry
    rw [eqB, Bool.and_eq_true, decide_eq_true_eq] at h
    exact .inr (.inr (.inr ⟨a, b, xs, ys, rfl, rfl, h1, h2, by simpa using h.1, eqBD_w n xs l _ ys h.2 r1 r2⟩))
  | n, .obj _ _, y, v, u, h, rx, ry => by cases n <;> cases y <;> simp [eqB] at h
  | n, .exc _, y, v, u, h, rx, ry => by cases n <;> cases y <;> simp [eqB] at h
  | n, .scr _, y, v, u, h, rx, ry => by cases n <;> cases y <;> simp [eqB] at h
theorem eqBL_w : ∀ (n : Nat) (l m : List D) (xs ys : List V), eqBL n l m = true → RL G A H l xs → RL G A' H m ys → Paired (EqW G.K H (n + 1)) xs ys
  | n, [], m, xs, ys, h, rx, ry => by
    cases m <;> first | (simp [eqBL] at h; done) | skip
    rw [show xs = [] from rx, show ys = [] from ry]
    exact .nil
  | n, x :: l, m, xs, ys, h, rx, ry => by
    cases m <;> first | (simp [eqBL] at h; done) | skip
    obtain ⟨v, r, rfl, h1, h2⟩ := rx
    obtain ⟨u, t, rfl, k1, k2⟩ := ry
    rw [eqBL, Bool.and_eq_true] at h
    exact .cons (eqB_w n x _ v u h.1 h1 k1) (eqBL_w n l _ r t h.2 h2 k2)
theorem eqBD_w : ∀ (n : Nat) (ks : List (Key × V)) (l m : List D) (ls : List (Key × V)), eqBD n (ks.map (·.1)) l (ls.map (·.1)) m = true → RL G A H l (ks.map (·.2)) → RL G A' H m (ls.map (·.2)) →
    ∀ p, p ∈ ks → ∃ u, valV ls p.1 = some u ∧ EqW G.K H (n + 1) p.2 u
  | n, [], l, m, ls, h, rx, ry => fun p hp => by cases hp
  | n, k :: ks, [], m, ls, h, rx, ry => by cases rx
  | n, k :: ks, x :: l, m, ls, h, rx, ry => fun p hp => by
    obtain ⟨v, r, e, h1, h2⟩ := rx
    cases e
    simp only [List.map_cons, eqBD, Bool.and_eq_true] at h
    rcases List.mem_cons.mp hp with e | hp
    · subst e
      cases hg : dGet (ls.map (·.1)) m p.1 with
      | none => rw [hg] at h; cases h.1
      | some y =>
        rw [hg] at h
        obtain ⟨u, e1, e2⟩ := dGet_r ry hg
        exact ⟨u, e1, eqB_w n x y _ u h.1 h1 e2⟩
    · exact eqBD_w n ks l m ls h.2 h2 ry p hp
end
def isCo : D → Bool
  | .tup _ | .lst _ | .dct _ _ => true
  | _ => false
theorem eqB_t {n : Nat} {x y : D} {v u : V} (hc : isCo x = true) (h : eqB (n + 1) x y = true) (rx : R G A H x v) (ry : R G A' H y u) : EqT G.K H (EqW G.K H (n + 1)) v u := by
  rcases eqB_w (n + 1) x y v u h rx ry with ⟨e, f⟩ | e
  · cases x <;> first | (cases hc; done) | skip
    · obtain ⟨a, _, rfl, _⟩ := rx; cases f
    · obtain ⟨a, _, rfl, _⟩ := rx; cases f
    · obtain ⟨a, _, rfl, _⟩ := rx; cases f
  · exact e
end
section
variable {G : Gb}
/-- == of what is equal all the way down -/
def oEqW : D → D → Option D := fun x y => if isCo x = true ∧ eqB 40 x y = true then some (.bl true) else none
def oNeW : D → D → Option D
  | .tup l, .tup m => if eqBL 39 l m = true then some (.bl false) else none
  | .dct ks l, .dct ks' m => if ks.length = ks'.length ∧ eqBD 0 ks l ks' m = true then some (.bl false) else none
  | _, _ => none
theorem RB.co {A : Addr → Prop} {H : Hp} {d : D} {v : V} (h : RB G A H d v) : R G (fun _ => True) H d v := h.r
theorem ops_eqW : OpS G foT (rEqW G.K) oEqW := by
  intro c O H x y z v1 v2 p1 p2 Q h1 h2 e q
  unfold oEqW at e
  split at e
  · rename_i hc
    cases e
    exact ⟨eqB_t hc.1 hc.2 h1.co h2.co, q.bl⟩
  · cases e
/-- a != b: two tuples, two dicts of flat things -/
def rNeZ (K : PySem.W.Frag) : R2 := fun x y H Q => rNeW K x y H Q ∨ (∃ a b ks ls, x = .ref a ∧ y = .ref b ∧ Rd H a (.dK ks) ∧ Rd H b (.dK ls) ∧ ks.length = ls.length ∧ (∀ p, p ∈ ks → valV ls p.1 = some p.2 ∧ flatB p.2 = true) ∧ Q (.bl false) H)
theorem leaf_eq {A A' : Addr → Prop} {H : Hp} {x y : D} {v u : V} (h : eqB 0 x y = true) (rx : R G A H x v) (ry : R G A' H y u) : v = u ∧ flatB v = true := by
  cases x <;> cases y <;> first | (simp [eqB] at h; done) | skip
  · rw [show v = .non from rx, show u = .non from ry]; exact ⟨rfl, rfl⟩
  · rw [eqB, decide_eq_true_eq] at h
    subst h
    rw [show v = _ from rx, show u = _ from ry]; exact ⟨rfl, rfl⟩
  · rw [eqB, decide_eq_true_eq] at h
    subst h
    rw [show v = _ from rx, show u = _ from ry]; exact ⟨rfl, rfl⟩
  · rw [eqB, decide_eq_true_eq] at h
    subst h
    rw [show v = _ from rx, show u = _ from ry]; exact ⟨rfl, rfl⟩
theorem leaves_eq {A A' : Addr → Prop} {H : Hp} : ∀ (ks : List (Key × V)) (l m : List D) (ls : List (Key × V)), eqBD 0 (ks.map (·.1)) l (ls.map (·.1)) m = true → RL G A H l (ks.map (·.2)) → RL G A' H m (ls.map (·.2)) →
    ∀ p, p ∈ ks → valV ls p.1 = some p.2 ∧ flatB p.2 = true
  | [], l, m, ls, h, rx, ry => fun p hp => by cases hp
  | k :: ks, [], m, ls, h, rx, ry => by cases rx
  | k :: ks, x :: l, m, ls, h, rx, ry => fun p hp => by
    obtain ⟨v, r, e, h1, h2⟩ := rx
    cases e
    simp only [List.map_cons, eqBD, Bool.and_eq_true] at h
    rcases List.mem_cons.mp hp with e | hp
    · subst e
      cases hg : dGet (ls.map (·.1)) m p.1 with
      | none => rw [hg] at h; cases h.1
      | some y =>
        rw [hg] at h
        obtain ⟨u, e1, e2⟩ := dGet_r ry hg
        obtain ⟨e3, e4⟩ := leaf_eq h.1 h1 e2
        exact ⟨by rw [e1, ← e3], e4⟩
    · exact leaves_eq ks l m ls h.2 h2 ry p hp
theorem op_neZ {X : Cx} (hu : X.A.units + 64 < cLine) : OpR X (compareOp .NotEq) (rNeZ X.K) := by
  intro pins s σ H x y v u Q I rx ry h
  rcases h with h | ⟨a, b, ks, ls, rfl, rfl, ea, eb, hlen, hp, q⟩
  · exact op_neW hu pins s σ H x y v u Q I rx ry h
  · obtain rfl : v = Value.ref a := rx
    obtain rfl : u = Value.ref b := ry
    obtain ⟨_, ya, va, ra, da⟩ := dk_rd I.hok ea
    obtain ⟨_, yb, vb, rb, db⟩ := dk_rd I.hok eb
    have e : va.length = vb.length := by rw [← ra.length, ← rb.length]; exact hlen
    exact PySem.W.keq_ne (knd := mixKind X.prog X.w) (r := true) ya yb da db (by omega) (fun _ => hits_all rb ra hp) (fin_bl I q (by simp [e]))
theorem ops_neZ : OpS G foT (rNeZ G.K) oNeW := by
  intro c O H x y z v1 v2 p1 p2 Q h1 h2 e q
  cases x <;> first | (cases e; done) | skip
  · cases y <;> first | (cases e; done) | skip
    simp only [oNeW] at e
    split at e
    · rename_i hc
      cases e
      obtain ⟨a, xs, rfl, g1, r1⟩ := h1.co
      obtain ⟨b, ys, rfl, g2, r2⟩ := h2.co
      exact .inl ⟨⟨a, b, xs, ys, rfl, rfl, g1, g2, eqBL_w 39 _ _ xs ys hc r1 r2⟩, q.bl⟩
    · cases e
  · cases y <;> first | (cases e; done) | skip
    simp only [oNeW] at e
    split at e
    · rename_i hc
      cases e
      obtain ⟨a, xs, rfl, _, g1, rfl, r1⟩ := h1.co
      obtain ⟨b, ys, rfl, _, g2, rfl, r2⟩ := h2.co
      exact .inr ⟨a, b, xs, ys, rfl, rfl, g1, g2, by simpa using hc.1, leaves_eq xs _ _ ys hc.2 r1 r2, q.bl⟩
    · cases e
theorem opr_eqW {N : List Str} {sc : Scope} {X : Cx} (g : Gv G N sc X) : OpR X (compareOp .Eq) (rEqW G.K) := by
  rw [← g.K]
  exact op_eqW g.un
theorem opr_neW {N : List Str} {sc : Scope} {X : Cx} (g : Gv G N sc X) : OpR X (compareOp .NotEq) (rNeZ G.K) := by
  rw [← g.K]
  exact op_neZ g.un
end
end Pi
namespace Pi
open PySem PySem.Spec PyProof.Rows L2
section
variable {G : Gb} {S : Se} {W : WX} {N : List Str} {sc scope : Scope} {k : Nat} {X : Cx} {F F1 F2 F3 F4 Fh : List SF} {Fo : List SF} {f f1 f2 f3 : VF} {c : Fr} {en : En} {own own0 own1 : Own} {σ : L2.St} {H H' H0 H1 : Hp}
/-! ### a part of a tuple -/
def oSlT : D → Option Int → Option Int → Option D
  | .tup l, lo, hi => if HT.sIx l.length 0 lo = 0 ∧ HT.sIx l.length l.length hi = l.length then none else some (.tup (cutD l lo hi))
  | _, _, _ => none
def eSlT (a : EvE) (lo hi : En → Rs (Option Int)) : EvE := fun en => bnd (a en) fun x => bnd (lo en) fun l => bnd (hi en) fun h => ofO (oSlT x l h)
theorem de_slT (g : Gv G N sc X) {e : Expr} {lo hi : Option Expr} {pos p2 : Pos} {ea : EvE} {el eh : En → Rs (Option Int)} (he : PE X e (TEv G W F F1 f ea)) (hl : PO X lo (TOv G W F1 F2 el)) (hh : PO X hi (TOv G W F2 F3 eh)) :
    PE X (.Subscript e (.Slice lo hi none p2) pos) (TEv G W F F3 (.sh f.dp) (eSlT ea el eh)) := by
  refine pe_imp (pe_slice sl_tup he hl hh) ?_
  rw [g.K]
  rintro σ H Q ⟨c, en, own, ok, m⟩
  refine ⟨c, en, own, ok, m.bnd.imp fun x hx m v1 H1 own1 ok1 s1 b1 r1 => ⟨c, en, own1, ok1, m.bnd.imp fun l _ m H2 own2 ok2 s2 b2 => ⟨c, en, own2, ok2, m.bnd.imp fun h _ m H3 own3 ok3 s3 b3 => ?_⟩⟩⟩
  clear hx
  obtain ⟨z, ez, q⟩ := m.ofO
  have s12 := s1.trans s2
  have b12 := sub_trans b1 s1 b2
  have kp : Kp G c (ow own3) H3 (.sh f.dp) z Q := ok3.kp fun v H4 own4 ok4 s4 b4 r4 => q v H4 own4 ok4 ((s12.trans s3).trans s4) (sub_trans (sub_trans b12 s12 b3) (s12.trans s3) b4) r4
  have r3 : RB G (Av c (ow own3) f.dp) H3 x v1 := RB.grow r1.b (s2.trans s3) (sub_trans b2 s2 b3)
  cases x <;> first | (cases ez; done) | skip
  simp only [oSlT] at ez
  split at ez
  · cases ez
  · rename_i hn
    cases ez
    obtain ⟨a, xs, rfl, g1, g2⟩ := r3
    exact ⟨a, xs, rfl, g1, by rw [g2.len]; exact hn, fun p hp => kp.new p _ hp ⟨_, rfl, cut_r g2 _ _⟩⟩
/-! ### d.get(k, x) -/
theorem dGet_none {A : Addr → Prop} : ∀ {kvs : List (Key × V)} {l : List D} {k : Key}, RL G A H l (kvs.map (·.2)) → dGet (kvs.map (·.1)) l k = none → valV kvs k = none
  | [], l, k, _, _ => rfl
  | p :: kvs, [], k, h, _ => by cases h
  | p :: kvs, a :: l, k, h, e => by
    obtain ⟨x, r, e1, h1, h2⟩ := h
    cases e1
    simp only [List.map_cons, dGet] at e
    by_cases hk : p.1 = k
    · rw [if_pos hk] at e; cases e
    · rw [if_neg hk] at e
      rw [valV_neg hk]
      exact dGet_none h2 e
def isDc : D → Bool
  | .dct _ _ => true
  | _ => false
def eGet2 (a b d : EvE) : EvE := fun en => bnd (a en) fun x => if isDc x = true then bnd (b en) fun y => bnd (d en) fun z => match x, dK y with
  | .dct ks l, some k => .ok ((dGet ks l k).getD z)
  | _, _ => .error .stuck
  else .error .stuck
theorem R.b2 {A A' : Addr → Prop} {d : D} {v : V} (h : R G A H d v) (m : ∀ a, A a → A' a) : R G A' H d v := h.an m
theorem de_get2 (g : Gv G N sc X) {o e d : Expr} {apos cpos : Pos} {ea eb ed : EvE} (ho : PE X o (TEv G W F F1 f1 ea)) (he : PE X e (TEv G W F1 F2 f2 eb)) (hd : PE X d (TEv G W F2 F3 f3 ed)) (hn : f3.nb = true := by rfl) (m1 : attributeBase o "get" X.env (eval o X.env) = eval o X.env := by rfl)
    (m2 : ((backTo cpos (starEach [e, d] X.env)).all (fun x => !x.1) && (backToKw cpos (keywordEach [] X.env)).all (fun x => x.1.isSome) && decide (([e, d] : List Expr).length + ([] : List Keyword).length + (if ([] : List Keyword).isEmpty then 0 else 1) < 30)) = true := by rfl) (m3 : (apos.endLine == cpos.line) = true := by rfl) (m4 : backTo cpos (starEach [e, d] X.env) = [(false, eval e X.env), (false, eval d X.env)] := by rfl) :
    PE X (.Call (.Attribute o "get" apos) [e, d] [] cpos) (TEv G W F F3 (.sh (f1.dp && f3.dp)) (eGet2 ea eb ed)) := by
  refine pe_imp (pe_dget2 (by have := g.un; omega) ho he hd ⟨m1, m2, m3, m4⟩) ?_
  rintro σ H Q ⟨c, en, own, ok, m⟩
  refine ⟨c, en, own, ok, m.bnd.imp fun x hx m v1 H1 own1 ok1 s1 b1 r1 => ?_⟩
  clear hx
  split at m
  · rename_i hs
    cases x <;> first | (cases hs; done) | skip
    rename_i ks l
    obtain ⟨a, kvs, e0, q1, q2, q3⟩ := r1.b
    refine ⟨a, e0, .inl ⟨kvs, q1⟩, c, en, own1, ok1, m.bnd.imp fun y _ m v2 H2 own2 ok2 s2 b2 r2 => ⟨c, en, own2, ok2, m.bnd.imp fun z _ m v3 H3 own3 ok3 s3 b3 r3 => ?_⟩⟩
    cases hk : dK y with
    | none => rw [hk] at m; exact m.elim
    | some kk =>
      rw [hk] at m
      obtain ⟨own3', ok3', k3, a3⟩ := r3.share ok3 hn
      have sH : Same H1 H3 := s2.trans s3
      have bH : Sub (ow own1) (ow own3') H1 := fun a z => (sub_trans b2 s2 b3) a (k3 a z)
      obtain ⟨a', kvs', e0', q1', q2', q3'⟩ := RB.grow r1.b sH bH
      have ea : a' = a := by rw [e0] at e0'; cases e0'; rfl
      subst ea
      refine ⟨valV kvs' kk, .inl ⟨kvs', kk, q1', dK_v hk (RB.grow r2.b s3 b3), rfl⟩, ?_⟩
      have fin := m ((valV kvs' kk).getD v3) H3 own3' ok3' ((s1.trans s2).trans s3) (fun a z => (sub_trans (sub_trans b1 s1 b2) (s1.trans s2) b3) a (k3 a z))
      refine fin ?_
      show R G (Av c (ow own3') (f1.dp && f3.dp)) H3 _ _
      cases hg : dGet ks l kk with
      | none =>
        rw [dGet_none q3' (by rw [q2']; exact hg)]
        exact a3.an fun a z => z.dpand' _
      | some w =>
        obtain ⟨u, e5, r5⟩ := dGet_r q3' (by rw [q2']; exact hg)
        rw [e5]
        exact r5.an fun a z => z.dpand _
  · exact m.elim
/-! ### sum, all, any of a list; str of a whole number -/
def intsL : List D → Option (List Int)
  | [] => some []
  | .int x :: l => (intsL l).map (x :: ·)
  | _ :: _ => none
theorem intsL_v {A : Addr → Prop} : ∀ {l : List D} {xs : List Int} {vs : List V}, intsL l = some xs → RL G A H l vs → vs = xs.map V.int
  | [], xs, vs, e, h => by cases e; exact h
  | .int x :: l, xs, vs, e, h => by
    obtain ⟨ys, e1, rfl⟩ := Option.map_eq_some_iff.mp e
    obtain ⟨v, r, rfl, h1, h2⟩ := h
    rw [intsL_v e1 h2, show v = V.int x from h1]
    rfl
  | .non :: _, _, _, e, _ => by cases e
  | .bl _ :: _, _, _, e, _ => by cases e
  | .str _ :: _, _, _, e, _ => by cases e
  | .tup _ :: _, _, _, e, _ => by cases e
  | .lst _ :: _, _, _, e, _ => by cases e
  | .dct _ _ :: _, _, _, e, _ => by cases e
  | .obj _ _ :: _, _, _, e, _ => by cases e
  | .exc _ :: _, _, _, e, _ => by cases e
  | .scr _ :: _, _, _, e, _ => by cases e
def blsL : List D → Option (List Bool)
  | [] => some []
  | .bl x :: l => (blsL l).map (x :: ·)
  | _ :: _ => none
theorem blsL_v {A : Addr → Prop} : ∀ {l : List D} {xs : List Bool} {vs : List V}, blsL l = some xs → RL G A H l vs → vs = xs.map V.bl
  | [], xs, vs, e, h => by cases e; exact h
  | .bl x :: l, xs, vs, e, h => by
    obtain ⟨ys, e1, rfl⟩ := Option.map_eq_some_iff.mp e
    obtain ⟨v, r, rfl, h1, h2⟩ := h
    rw [blsL_v e1 h2, show v = V.bl x from h1]
    rfl
  | .non :: _, _, _, e, _ => by cases e
  | .int _ :: _, _, _, e, _ => by cases e
  | .str _ :: _, _, _, e, _ => by cases e
  | .tup _ :: _, _, _, e, _ => by cases e
  | .lst _ :: _, _, _, e, _ => by cases e
  | .dct _ _ :: _, _, _, e, _ => by cases e
  | .obj _ _ :: _, _, _, e, _ => by cases e
  | .exc _ :: _, _, _, e, _ => by cases e
  | .scr _ :: _, _, _, e, _ => by cases e
def oSum : List D → Option D
  | [.lst l] => (intsL l).map fun ns => .int ns.sum
  | _ => none
def oAll : List D → Option D
  | [.lst l] => (blsL l).map fun bs => .bl (bs.all id)
  | _ => none
def oAny : List D → Option D
  | [.lst l] => (blsL l).map fun bs => .bl (bs.any id)
  | _ => none
def oStr : List D → Option D
  | [.int i] => if i.natAbs.log2 < 1920 then some (.str (PySem.Str.ofString (toString i))) else none
  | _ => none
theorem calls_sum : CallS G foL (rSum G.K) oSum := by
  intro c O H fs ds vs z Q h e q
  match ds, e with
  | [.lst l], e =>
    obtain ⟨ns, e1, rfl⟩ := Option.map_eq_some_iff.mp e
    obtain ⟨f, v, rfl, rfl, a, xs, rfl, g1, g2⟩ := h.one
    have := intsL_v e1 g2
    subst this
    exact ⟨a, ns, rfl, SqL.of g1, q.int⟩
theorem calls_all : CallS G foL (rAll G.K) oAll := by
  intro c O H fs ds vs z Q h e q
  match ds, e with
  | [.lst l], e =>
    obtain ⟨ns, e1, rfl⟩ := Option.map_eq_some_iff.mp e
    obtain ⟨f, v, rfl, rfl, a, xs, rfl, g1, g2⟩ := h.one
    have := blsL_v e1 g2
    subst this
    exact ⟨a, ns, rfl, SqL.of g1, q.bl⟩
theorem calls_any : CallS G foL (rAny G.K) oAny := by
  intro c O H fs ds vs z Q h e q
  match ds, e with
  | [.lst l], e =>
    obtain ⟨ns, e1, rfl⟩ := Option.map_eq_some_iff.mp e
    obtain ⟨f, v, rfl, rfl, a, xs, rfl, g1, g2⟩ := h.one
    have := blsL_v e1 g2
    subst this
    exact ⟨a, ns, rfl, SqL.of g1, q.bl⟩
theorem calls_str : CallS G foL (fun xs H Q => ∃ i, xs = [.int i] ∧ i.natAbs.log2 < 1920 ∧ Q (.str (PySem.Str.ofString (toString i))) H) oStr := by
  intro c O H fs ds vs z Q h e q
  match ds, e with
  | [.int i], e =>
    simp only [oStr] at e
    split at e
    · rename_i hc
      cases e
      obtain ⟨f, v, rfl, rfl, h1⟩ := h.one
      exact ⟨i, by rw [show v = _ from h1], hc, q.str⟩
    · cases e
theorem de_sum (g : Gd G N sc k W X) {p pos : Pos} {e : Expr} {ea : En → Rs (List D)} (hm : G.mg "sum" = none) (ha : PA X [e] (TAv G W F F1 [f] ea)) (hx : glbB sc "sum" = true := by rfl) (he : starEach [e] X.env = [(false, eval e X.env)] := by rfl) : PE X (.Call (.Name "sum" p) [e] [] pos) (TEv G W F F1 (.uq true) (eBi oSum ea)) :=
  de_callB g.toGv (fo := foL) (id := "sum") (by rw [← g.K]; exact cr_sum g.calm) calls_sum hm (by decide +kernel) ha hx (by decide) he rfl
theorem de_all (g : Gd G N sc k W X) {p pos : Pos} {e : Expr} {ea : En → Rs (List D)} (hm : G.mg "all" = none) (ha : PA X [e] (TAv G W F F1 [f] ea)) (hx : glbB sc "all" = true := by rfl) (he : starEach [e] X.env = [(false, eval e X.env)] := by rfl) : PE X (.Call (.Name "all" p) [e] [] pos) (TEv G W F F1 (.uq true) (eBi oAll ea)) :=
  de_callB g.toGv (fo := foL) (id := "all") (by rw [← g.K]; exact cr_all g.calm) calls_all hm (by decide +kernel) ha hx (by decide) he rfl
theorem de_any (g : Gd G N sc k W X) {p pos : Pos} {e : Expr} {ea : En → Rs (List D)} (hm : G.mg "any" = none) (ha : PA X [e] (TAv G W F F1 [f] ea)) (hx : glbB sc "any" = true := by rfl) (he : starEach [e] X.env = [(false, eval e X.env)] := by rfl) : PE X (.Call (.Name "any" p) [e] [] pos) (TEv G W F F1 (.uq true) (eBi oAny ea)) :=
  de_callB g.toGv (fo := foL) (id := "any") (by rw [← g.K]; exact cr_any g.calm) calls_any hm (by decide +kernel) ha hx (by decide) he rfl
theorem de_str1 (g : Gd G N sc k W X) {p pos : Pos} {e : Expr} {ea : En → Rs (List D)} (hm : G.mg "str" = none) (ha : PA X [e] (TAv G W F F1 [f] ea)) (hx : glbB sc "str" = true := by rfl) (he : starEach [e] X.env = [(false, eval e X.env)] := by rfl) : PE X (.Call (.Name "str" p) [e] [] pos) (TEv G W F F1 (.uq true) (eBi oStr ea)) :=
  de_callT g.toGv (fo := foL) (T := "str") call_str_int calls_str hm (by decide +kernel) ha hx (by decide) he rfl
end
end Pi
namespace Pi
open PySem PySem.Spec PyProof.Rows L2
/-! ### more of texts -/
section
variable {G : Gb} {S : Se} {W : WX} {N : List Str} {sc scope : Scope} {k : Nat} {X : Cx} {F F1 F2 F3 F4 Fh : List SF} {Fo : List SF} {f f1 f2 : VF} {c : Fr} {en : En} {own own0 own1 : Own} {σ : L2.St} {H H' H0 H1 : Hp}
/-- x not in y, texts -/
def oSIn : D → D → Option D
  | .str x, .str y => some (.bl (!(!(Builtin.Str.occurrences y x 0 y.length 1).isEmpty)))
  | _, _ => none
theorem ops_sin : OpS G foT (fun x y H Q => ∃ i j, x = .str i ∧ y = .str j ∧ Q (.bl (!(!(Builtin.Str.occurrences j i 0 j.length 1).isEmpty))) H) oSIn := by
  intro c O H x y z v1 v2 p1 p2 Q h1 h2 e q
  cases x <;> first | (cases e; done) | skip
  cases y <;> first | (cases e; done) | skip
  cases e
  exact ⟨_, _, h1, h2, q.bl⟩
/-- x.startswith(y) -/
def oStw : D → D → Option D
  | .str a, .str b => some (.bl (Txt.startswith a b))
  | _, _ => none
theorem ms_stw : MS1 G (.uq true) (fun x xs H Q => ∃ a b, x = .str a ∧ xs = [.str b] ∧ Q (.bl (Txt.startswith a b)) H) oStw := by
  intro c O H x y z v1 v2 p1 p2 Q h1 h2 e q
  cases x <;> first | (cases e; done) | skip
  cases y <;> first | (cases e; done) | skip
  cases e
  exact ⟨_, _, h1, by rw [show v2 = _ from h2], q.bl⟩
theorem de_stw {o e : Expr} {apos pos : Pos} {ea eb : EvE} (ho : PE X o (TEv G W F F1 f1 ea)) (he : PE X e (TEv G W F1 F2 f2 eb)) (hs : starEach [e] X.env = [(false, eval e X.env)] := by rfl) (hbase : attributeBase o "startswith" X.env (eval o X.env) = eval o X.env := by rfl) (hline : (apos.endLine == pos.line) = true := by rfl) :
    PE X (.Call (.Attribute o "startswith" apos) [e] [] pos) (TEv G W F F2 (.uq true) (eM1 oStw ea eb)) := pe_imp (pe_m1 PySem.F.slot_str_startswith PySem.F.type_str_startswith mt_startswith ho he hs hbase hline) (m1_core ms_stw)
/-- int(text) -/
def oIntS : List D → Option D
  | [.str x] => if x.length ≤ 640 then (intText? x).map .int else none
  | _ => none
theorem calls_ints : CallS G foL (fun xs H Q => ∃ a n, xs = [.str a] ∧ PySem.intText? a = some n ∧ a.length ≤ 640 ∧ Q (.int n) H) oIntS := by
  intro c O H fs ds vs z Q h e q
  match ds, e with
  | [.str x], e =>
    simp only [oIntS] at e
    split at e
    · rename_i hl
      obtain ⟨n, hn, rfl⟩ := Option.map_eq_some_iff.mp e
      obtain ⟨f, v, rfl, rfl, r1⟩ := h.one
      exact ⟨x, n, congrArg (fun x => [x]) r1, hn, hl, q.int⟩
    · cases e
theorem de_ints (g : Gv G N sc X) {p pos : Pos} {e : Expr} {fs : List VF} {ea : En → Rs (List D)} (hm : G.mg "int" = none) (ha : PA X [e] (TAv G W F F1 fs ea)) (hx : glbB sc "int" = true := by rfl)
    (he : starEach [e] X.env = [(false, eval e X.env)] := by rfl) : PE X (.Call (.Name "int" p) [e] [] pos) (TEv G W F F1 (.uq true) (eBi oIntS ea)) :=
  de_callT g (fo := foL) call_int_str calls_ints hm (by decide +kernel) ha hx (by decide) he rfl
/-! ### isinstance of a class of the text -/
def insB (K : PySem.W.Frag) (D : Addr) : Bool :=
  decide (PySem.W.findIn K (.ref D) "__class__" = some (some (.builtin "object.__class__"))) && (decide (PySem.W.specialIn K (.builtin "object.__class__") "__get__" = some (some (.builtin "getset_descriptor.__get__"))) && (decide (PySem.W.takesIn K (.builtin "object.__class__") = some true) && decide (PySem.W.mroIn K D (.type "object") = some true)))
structure InsC (G : Gb) (ci : Nat) : Prop where
  ok : insB G.K (G.ca ci) = true
def eIsO (ci : Nat) (a : EvE) : EvE := fun en => bnd (a en) fun d => match d with
  | .obj c _ => if c = ci then .ok (.bl true) else .error .stuck
  | _ => .error .stuck
theorem de_isO (g : Gv G N sc X) {ci : Nat} {x : Str} {ks : List Str} (hk : Ccl G ci x ks) (ik : InsC G ci) {p pos tp : Pos} {a : Expr} {ea : EvE} (hm : G.mg "isinstance" = none) (ha : PE X a (TEv G W F F1 f1 ea)) (hx : glbB sc "isinstance" = true := by rfl) (hx2 : glbB sc x = true := by rfl) (hn : nameB x = true := by rfl)
    (he : starEach [a, .Name x tp] X.env = [(false, eval a X.env), (false, eval (.Name x tp) X.env)] := by rfl) : PE X (.Call (.Name "isinstance" p) [a, .Name x tp] [] pos) (TEv G W F F1 (.uq true) (eIsO ci ea)) := by
  have hT : PE X (.Name x tp) (tC (.ref (G.ca ci))) := pe_glob (glbB_gl hx2 g.sc) (by rw [g.mg]; exact hk.gl) (show RelV (.ref _) (.ref _) from rfl) (nameB_d hn).1
  refine pe_imp (pe_callB call_isi (glbB_gl hx g.sc) (by rw [g.mg]; exact hm) (by decide +kernel) (pa_cons ha (pa_cons hT pa_nil) (by rw [he]; rfl)) (by decide) (by decide) (by rw [he]; rfl) rfl) ?_
  rintro σ H Q ⟨c, en, own, ok, m⟩
  refine ⟨c, en, own, ok, m.bnd.imp fun d hd mx v1 H1 own1 ok1 s1 b1 r1 => ?_⟩
  clear hd
  cases d <;> first | exact mx.elim | skip
  rename_i c' l
  dsimp only at mx
  split at mx
  · rename_i e
    subst e
    obtain ⟨a, dx, fs, rfl, h1, h2, h3⟩ := r1.b
    have z := ik.ok
    simp only [insB, Bool.and_eq_true, decide_eq_true_eq] at z
    have kk : PySem.W.kitOne G.K (.ref (G.ca c')) (.ref (G.ca c')) = some true := by
      unfold PySem.W.kitOne
      rw [if_pos (beq_self_eq_true _)]
    exact ⟨.ref a, .ref (G.ca c'), .ref (G.ca c'), .ref (G.ca c'), true, rfl, .own _, by rw [g.K]; exact .base (.ins h1 hk.cls z.1 z.2.1 z.2.2.1 z.2.2.2), by rw [g.K]; exact kk, mx _ H1 own1 ok1 s1 b1 (RV.mkB _)⟩
  · exact mx.elim
end
end Pi
namespace Pi
open PySem PySem.Spec PyProof.Rows L2 He
/-! ### the law's end, with the script's bits told -/
def bitsLe (ns : List Int) : Prop := ∀ z, z ∈ ns → Builtin.Int.intBits z ≤ 1048576
def spLawB (K : PySem.W.Frag) (n : Nat) : Sp := fun vs H Q _ => ∃ (a : Addr) (ns : List Int), vs = [.ref a] ∧ ns.length ≤ n ∧ bitsLe ns ∧ SqF K H a (ns.map V.int) ∧ ∀ H', Q (.bl true) H'
theorem law_okB {G : Gb} {P : Program} {w : World} {K : PySem.W.Frag} {mg : Str → Option Value} {base : Heap} {CX : CXT} {k n : Nat} {f : Addr} {fd : FuncData} {ps : List Str} {md : Bool} {fn : List D → Rs D} (h : FnOk P w K mg base CX k f fd ps (spF G md 1 fn)) (hK : G.K = K) (hp : ps.length = 1)
    (hfn : ∀ ns : List Int, ns.length ≤ n → bitsLe ns → fn [.scr ns] = .ok (.bl true)) : FnOk P w K mg base CX k f fd ps (spLawB K n) := by
  have m : ∀ vs H Q E, spLawB K n vs H Q E → spF G md 1 fn vs H Q E := by
    rintro vs H Q E ⟨a, ns, rfl, hl, hbits, hS, q⟩
    subst hK
    refine ⟨rfl, [.scr ns], fun _ => True, ⟨_, _, rfl, ⟨a, rfl, hS⟩, rfl⟩, ?_⟩
    rw [hfn ns hl hbits]
    intro v H' _ r
    have : v = .bl true := by
      cases md with
      | true => obtain ⟨os, h, _⟩ := r; exact h.2
      | false => exact r
    rw [this]
    exact q H'
  obtain ⟨h1, h2⟩ := h
  exact ⟨fun vs H Q E hs => h1 vs H Q E (m _ _ _ _ hs), fun A outer s H args us vs Q E hr e0 hb r hsp => h2 A outer s H args us vs Q E hr e0 hb r (m _ _ _ _ hsp)⟩
theorem law_endB {K : PySem.W.Frag} {n : Nat} (H : Hp) (a : Addr) (ns : List Int) (hl : ns.length ≤ n) (hb : bitsLe ns) (ho : Only H) (hS : SqL K H a (ns.map V.int)) : spLawB K n [.ref a] H (fun v _ => v = .bl true) fun _ _ _ => False := by
  refine ⟨a, ns, rfl, hl, hb, ?_, fun _ => rfl⟩
  rcases hS with (h | ⟨o, h⟩) | h
  · rcases ho a with z | ⟨o, xs, z⟩
    · rw [z] at h; cases h
    · rw [z] at h; cases h
  · exact .inl ⟨o, h⟩
  · exact .inr h
theorem walk_ofWB {l : PySem.W.OpenLaw} {n k : Nat} {q : Program} {loose : List Str} {XP : (Str → Option Value) → Heap → Prop} {YP : World → Heap → Prop} {d : DefRec} {CX : World → CXT} {x : Str}
    (hn : l.most = some n) (hn2 : n ≤ sizeLine) (hdf : d.params.defaults = []) (hr : Room k callerA)
    (F : ∀ (w : World) (mg : Str → Option Value) (fa : Addr) (h : Heap), YP w h → h.Ns mainGlobals mg → mg d.name = some (.ref fa) →
      ∃ (K : PySem.W.Frag) (fd : FuncData) (sp : Sp), K.In h ∧ (∀ (s : Shared) (u : Value), BindsTo s fd ⟨[u], []⟩ [(x, u)]) ∧
        (∀ (H : Hp) (a : Addr) (ns : List Int), ns.length ≤ n → bitsLe ns → Only H → SqL K H a (ns.map V.int) → sp [.ref a] H (fun v _ => v = .bl true) fun _ _ _ => False) ∧
        ∀ base : Heap, K.In base → base.Ns mainGlobals mg → FnOk l.prog w K mg base (CX w) k fa fd [x] sp)
    (hCX : ∀ (w : World) (H : Hp) (s : Shared) (e : Value) (s' : Shared), CX w [] H s (fun _ _ _ => False) e s' → False) :
    PySem.W.WalkO q loose XP YP l.row.toRowW d [] (fun f vs => PySem.call f vs) := by
  refine Att.attach_callB hn hdf fun w s₀ s₁ mg mb fa o pm cd doc a vs ns G Y ho hd hcd hmg hobj hints hlen hbits hg => ?_
  obtain ⟨K, fd, sp, KX, hb, hsp, hF⟩ := F w mg fa _ Y G.T.g hmg
  exact law_call KX G.T.g G.T.b G.T.builtins G.T.nolimit hg hobj hints (Nat.le_trans hlen hn2) hr hF hb (fun H hO hS => hsp H a ns hlen hbits hO hS) fun H e s' => hCX w H s₁ e s'
end Pi
namespace Pi
open PySem PySem.Spec PyProof.Rows L2
/-! ### mirrors, step by step -/
section
variable {en : En} {a b ev : EvE} {ea er : En → Rs (List D)} {t u : En → Rs Bool} {s s' : EvS} {i j : Nat} {d : D}
@[simp] theorem runF_ap (m : Nat) (st : EvS) (ds : List D) : runF m st ds = endR (st (ds.map some ++ List.replicate m none)) := rfl
@[simp] theorem endR_nx (e : En) : endR (.ok (.nx e)) = .ok .non := rfl
@[simp] theorem endR_rt (d : D) : endR (.ok (.rt d)) = .ok d := rfl
@[simp] theorem endR_er (e : Er) : endR (.error e) = .error e := rfl
@[simp] theorem sNil_ap : sNil en = .ok (.nx en) := rfl
@[simp] theorem sSeq_ap : sSeq s s' en = bnd (s en) fun fl => match fl with
    | .nx en' => s' en'
    | x => .ok x := rfl
@[simp] theorem sRet_ap : sRet ev en = bnd (ev en) fun d => .ok (.rt d) := rfl
@[simp] theorem sRai_ap (e : Nat) : sRai e en = .error (.raise e) := rfl
@[simp] theorem sEx_ap : sEx ev en = bnd (ev en) fun _ => .ok (.nx en) := rfl
@[simp] theorem sAs_ap : sAs i ev en = bnd (ev en) fun d => .ok (.nx (en.set i (some d))) := rfl
@[simp] theorem sPar_ap : sPar i j a b en = bnd (a en) fun x => bnd (b en) fun y => .ok (.nx ((en.set i (some x)).set j (some y))) := rfl
@[simp] theorem sIf_ap : sIf t s s' en = bnd (t en) fun c => if c = true then s en else s' en := by
  unfold sIf
  cases t en with
  | error e => rfl
  | ok c => cases c <;> rfl
theorem eVar_ap : eVar i en = match en[i]? with
  | some (some d) => .ok d
  | _ => .error .stuck := rfl
@[simp] theorem eVar_0 (d : D) (r : En) : eVar 0 (some d :: r) = .ok d := rfl
@[simp] theorem eVar_s (n : Nat) (o : Option D) (r : En) : eVar (n + 1) (o :: r) = eVar n r := rfl
@[simp] theorem eB2_ap (op : D → D → Option D) : eB2 op a b en = bnd (a en) fun x => bnd (b en) fun y => ofO (op x y) := rfl
@[simp] theorem eU1_ap (op : D → Option D) : eU1 op a en = bnd (a en) fun x => ofO (op x) := rfl
@[simp] theorem tV_ap : tV ev en = bnd (ev en) fun d => ofO (asB d) := rfl
@[simp] theorem asB_bl (b : Bool) : asB (.bl b) = some b := rfl
@[simp] theorem tNt_ap : tNt t en = bnd (t en) fun b => .ok (!b) := rfl
@[simp] theorem tAn_ap : tAn t u en = bnd (t en) fun b => if b = true then u en else .ok false := rfl
@[simp] theorem tO_ap : tO t u en = bnd (t en) fun b => if b = true then .ok true else u en := rfl
@[simp] theorem eAn_ap : eAn a b en = bnd (a en) fun d => bnd (ofO (asB d)) fun c => if c = true then b en else .ok (.bl false) := rfl
@[simp] theorem eOr_ap : eOr a b en = bnd (a en) fun d => bnd (ofO (asB d)) fun c => if c = true then .ok (.bl true) else b en := rfl
@[simp] theorem eNt_ap : eNt a en = bnd (a en) fun d => bnd (ofO (asB d)) fun c => .ok (.bl (!c)) := rfl
@[simp] theorem aNil_ap : aNil en = .ok [] := rfl
@[simp] theorem aCons_ap : aCons a er en = bnd (a en) fun d => bnd (er en) fun ds => .ok (d :: ds) := rfl
@[simp] theorem eTup_ap : eTup ea en = bnd (ea en) fun ds => .ok (.tup ds) := rfl
@[simp] theorem eLst_ap : eLst ea en = bnd (ea en) fun ds => .ok (.lst ds) := rfl
@[simp] theorem eBi_ap (op : List D → Option D) : eBi op ea en = bnd (ea en) fun ds => ofO (op ds) := rfl
@[simp] theorem eCall_ap (fn : List D → Rs D) : eCall fn ea en = bnd (ea en) fn := rfl
@[simp] theorem eCallD_ap (fn : List D → Rs D) (dd : D) : eCallD fn dd ea en = bnd (ea en) fun ds => fn (ds ++ [dd]) := rfl
@[simp] theorem eFl_ap : eFl a en = bnd (a en) fun d => if flat d = true then .ok d else .error .stuck := rfl
@[simp] theorem flat_int (i : Int) : flat (.int i) = true := rfl
@[simp] theorem flat_bl (i : Bool) : flat (.bl i) = true := rfl
@[simp] theorem flat_str (i : Str) : flat (.str i) = true := rfl
@[simp] theorem flat_non : flat .non = true := rfl
@[simp] theorem flat_tup (l : List D) : flat (.tup l) = flat.flatL l := by simp [flat]
@[simp] theorem flatL_nil : flat.flatL [] = true := rfl
@[simp] theorem flatL_cons (d : D) (l : List D) : flat.flatL (d :: l) = (flat d && flat.flatL l) := rfl
@[simp] theorem eIsi_ap (u : Ty) : eIsi u a en = bnd (a en) fun d => bnd (ofO (tyD d)) fun t => .ok (.bl (isiB t u)) := rfl
@[simp] theorem tyD_int (i : Int) : tyD (.int i) = some .int := rfl
@[simp] theorem tyD_bl (i : Bool) : tyD (.bl i) = some .bool := rfl
@[simp] theorem tyD_str (i : Str) : tyD (.str i) = some .str := rfl
@[simp] theorem tyD_non : tyD .non = some .non := rfl
@[simp] theorem tyD_tup (l : List D) : tyD (.tup l) = some .tuple := rfl
@[simp] theorem tyD_lst (l : List D) : tyD (.lst l) = some .list := rfl
@[simp] theorem tyD_scr (l : List Int) : tyD (.scr l) = some .list := rfl
@[simp] theorem sTu_ap (is : List Nat) : sTu is ev en = bnd (ev en) fun d => match d with
  | .tup ds => if ds.length = is.length then .ok (.nx (setAll en is ds)) else .error .stuck
  | _ => .error .stuck := rfl
@[simp] theorem setAll_nil : setAll en [] [] = en := rfl
@[simp] theorem setAll_cons (i : Nat) (is : List Nat) (d : D) (ds : List D) : setAll en (i :: is) (d :: ds) = setAll (en.set i (some d)) is ds := rfl
@[simp] theorem sFor_ap (ev : EvI) (set : En → D → Option En) : sFor ev set s en = bnd (ev en) fun ds => evFor set s ds en := rfl
@[simp] theorem set1_ap (i : Nat) (d : D) : set1 i en d = some (en.set i (some d)) := rfl
@[simp] theorem iRn_ap : iRn ea en = bnd (ea en) fun ds => ofO (oRng ds) := rfl
@[simp] theorem iL_ap : iL ev en = bnd (ev en) fun d => ofO (itemsL d) := rfl
@[simp] theorem iT_ap : iT ev en = bnd (ev en) fun d => ofO (itemsT d) := rfl
@[simp] theorem itemsL_lst (l : List D) : itemsL (.lst l) = some l := rfl
@[simp] theorem itemsL_scr (l : List Int) : itemsL (.scr l) = some (l.map .int) := rfl
@[simp] theorem itemsT_tup (l : List D) : itemsT (.tup l) = some l := rfl
@[simp] theorem sApp_ap : sApp i ev en = bnd (getL i en) fun l => bnd (ev en) fun d => if l.length < sizeLine then .ok (.nx (en.set i (some (.lst (l ++ [d]))))) else .error .stuck := rfl
@[simp] theorem getL_0 (l : List D) (r : En) : getL 0 (some (.lst l) :: r) = .ok l := rfl
@[simp] theorem getL_s (n : Nat) (o : Option D) (r : En) : getL (n + 1) (o :: r) = getL n r := rfl
end
/-! ### operators -/
@[simp] theorem oAdd_int (i j : Int) : oAdd (.int i) (.int j) = some (.int (i + j)) := rfl
@[simp] theorem oSub_int (i j : Int) : oSub (.int i) (.int j) = some (.int (i - j)) := rfl
theorem oMul_int {i j : Int} (h : mulOk i j = true) : oMul (.int i) (.int j) = some (.int (i * j)) := by
  show (if mulOk i j = true then some (D.int (i * j)) else none) = _
  rw [if_pos h]
theorem oDiv_int {i j : Int} (h : divOk i j = true) : oDiv (.int i) (.int j) = some (.int (i.fdiv j)) := by
  show (if divOk i j = true then some (i.fdiv j) else none).map D.int = _
  rw [if_pos h] <;> rfl
theorem oMod_int {i j : Int} (h : j ≠ 0) : oMod (.int i) (.int j) = some (.int (i.fmod j)) := by
  show (if j = 0 then none else some (i.fmod j)).map D.int = _
  rw [if_neg h] <;> rfl
theorem oPow_int {i j : Int} (h : 0 ≤ j ∧ j ≤ 1000000 ∧ i.natAbs < 18446744073709551616) : oPow (.int i) (.int j) = some (.int (i ^ j.toNat)) := by
  show (if 0 ≤ j ∧ j ≤ 1000000 ∧ i.natAbs < 18446744073709551616 then some (i ^ j.toNat) else none).map D.int = _
  rw [if_pos h] <;> rfl
@[simp] theorem oCI_int (p : Int → Int → Bool) (i j : Int) : oCI p (.int i) (.int j) = some (.bl (p i j)) := rfl
@[simp] theorem oEq_int (i j : Int) : oEq (.int i) (.int j) = some (.bl (decide (i = j))) := by
  have : PyData.eqv (.int i) (.int j) = decide (i = j) := by simp [PyData.eqv]; by_cases h : i = j <;> simp [h]
  simp [oEq, pl, toP, this]
@[simp] theorem oNe_int (i j : Int) : oNe (.int i) (.int j) = some (.bl (!decide (i = j))) := by
  have : PyData.eqv (.int i) (.int j) = decide (i = j) := by simp [PyData.eqv]; by_cases h : i = j <;> simp [h]
  simp [oNe, pl, toP, this]
@[simp] theorem oLen_scr (l : List Int) : oLen [.scr l] = some (.int l.length) := rfl
@[simp] theorem oLen_lst (l : List D) : oLen [.lst l] = some (.int l.length) := rfl
@[simp] theorem oLen_tup (l : List D) : oLen [.tup l] = some (.int l.length) := rfl
@[simp] theorem oAbs_int (i : Int) : oAbs [.int i] = some (.int (i.natAbs : Int)) := by
  show some (D.int (if i < 0 then -i else i)) = _
  split
  · rw [show -i = (i.natAbs : Int) by omega]
  · rw [show i = (i.natAbs : Int) by omega]; rfl
@[simp] theorem oInt_int (i : Int) : oInt [.int i] = some (.int i) := rfl
@[simp] theorem oInt_bl (b : Bool) : oInt [.bl b] = some (.int (if b then 1 else 0)) := rfl
@[simp] theorem oNeg_int (i : Int) : oNeg (.int i) = some (.int (-i)) := rfl
theorem log2_lt {n m : Nat} (h : n < 2 ^ m) (hm : 0 < m) : n.log2 < m := by
  by_cases hn : n = 0
  · subst hn; simpa using hm
  · exact (Nat.log2_lt hn).mpr h
theorem mulOk_of {i j : Int} {m n : Nat} (hi : i.natAbs < 2 ^ m) (hj : j.natAbs < 2 ^ n) (hm : 0 < m) (hn : 0 < n) (h : m + n < 100000000) : mulOk i j = true := by
  have h1 := log2_lt hi hm
  have h2 := log2_lt hj hn
  unfold mulOk
  simp only [Bool.or_eq_true, decide_eq_true_eq]
  exact .inr (by omega)
theorem mulOk_l {i j : Int} (hi : i.natAbs < 18446744073709551616) : mulOk i j = true := by
  unfold mulOk
  simp [hi]
theorem mulOk_r {i j : Int} (hi : j.natAbs < 18446744073709551616) : mulOk i j = true := by
  unfold mulOk
  simp [hi]
theorem divOk_of {i j : Int} {m : Nat} (h0 : j ≠ 0) (hj : j.natAbs < 2 ^ m) (hm : 0 < m) (h : m ≤ 9000) : divOk i j = true := by
  have h2 := log2_lt hj hm
  unfold divOk
  simp [h0]
  exact .inl (by omega)
@[simp] theorem oIx_20 (a b : D) : oIx (.tup [a, b]) (.int 0) = some a := rfl
@[simp] theorem oIx_21 (a b : D) : oIx (.tup [a, b]) (.int 1) = some b := rfl
theorem atI_nat {α : Type} {l : List α} {n : Nat} (h : n < l.length) : L2.atI l (n : Int) = some l[n] := by
  unfold L2.atI ixN
  rw [if_pos (by omega), if_pos (by omega)]
  simp [h]
theorem oIx_scr {l : List Int} {n : Nat} (h : n < l.length) : oIx (.scr l) (.int n) = some (.int l[n]) := by
  show (L2.atI l (n : Int)).map D.int = _
  rw [atI_nat h] <;> rfl
theorem oIx_lst {l : List D} {n : Nat} (h : n < l.length) : oIx (.lst l) (.int n) = some l[n] := atI_nat h
theorem oIx_tup {l : List D} {n : Nat} (h : n < l.length) : oIx (.tup l) (.int n) = some l[n] := atI_nat h
/-! ### whole numbers -/
theorem fmod_lt {a b : Int} (h : b ≠ 0) : (a.fmod b).natAbs < b.natAbs := by
  rcases Int.lt_or_lt_of_ne h with h | h
  · have h0 : (-a).fmod (-b) = -(a.fmod b) := Int.neg_fmod_neg a b
    have h1 := Int.fmod_lt_of_pos (-a) (show 0 < -b by omega)
    have h2 := Int.fmod_nonneg_of_pos (-a) (show 0 < -b by omega)
    omega
  · have h1 := Int.fmod_lt_of_pos a h
    have h2 := Int.fmod_nonneg_of_pos a h
    omega
theorem gcd_fmod (a b : Int) : Int.gcd b (a.fmod b) = Int.gcd a b := by
  have e : a.fmod b = a - b * a.fdiv b := Int.fmod_def a b
  apply Nat.dvd_antisymm
  · refine Int.dvd_gcd ?_ (Int.gcd_dvd_left ..)
    have h1 : (Int.gcd b (a.fmod b) : Int) ∣ b := Int.gcd_dvd_left ..
    have h2 : (Int.gcd b (a.fmod b) : Int) ∣ a.fmod b := Int.gcd_dvd_right ..
    have h3 := Int.dvd_add h2 (Int.dvd_mul_of_dvd_left (c := a.fdiv b) h1)
    have h4 : a.fmod b + b * a.fdiv b = a := by rw [e]; omega
    rw [h4] at h3
    exact h3
  · refine Int.dvd_gcd (Int.gcd_dvd_right ..) ?_
    have h1 : (Int.gcd a b : Int) ∣ b := Int.gcd_dvd_right ..
    have h2 : (Int.gcd a b : Int) ∣ a := Int.gcd_dvd_left ..
    rw [e]
    exact Int.dvd_sub h2 (Int.dvd_mul_of_dvd_left h1)
end Pi
noncomputable section
namespace Co
open PySem PySem.Spec PyProof.Rows L2 Pi
/-! ### what many laws share: the mirrors of the program's fractions and of the laws' own helpers -/
def s_cell : EvS := (sSeq (sIf (tV (eB2 oLt (eVar 1) (eBi oLen (aCons (eVar 0) aNil))))
    (sRet (eFl (eB2 oIx (eVar 0) (eVar 1))))
    sNil)
  (sRet (eB2 oAdd (eFl (eB2 oMul (eC (.int 2)) (eVar 1))) (eC (.int 1)))))
def f_cell : List D → Rs D := runF 0 s_cell
def cellAt (ns : List Int) (k : Nat) : Int := if h : k < ns.length then ns[k] else 2 * k + 1
theorem cell_eq (ns : List Int) (k : Nat) : f_cell [.scr ns, .int k] = .ok (.int (cellAt ns k)) := by
  unfold cellAt
  by_cases h : k < ns.length
  · have h' : (k : Int) < (ns.length : Int) := by omega
    simp [f_cell, s_cell, h, oIx_scr h]
  · have m : mulOk 2 (k : Int) = true := mulOk_l (by decide)
    simp [f_cell, s_cell, h, oMul_int m]
def s_whole : EvS := (sRet (eAn (eIsi .int (eVar 0)) (eNt (eIsi .bool (eVar 0)))))
def f_whole : List D → Rs D := runF 0 s_whole
theorem whole_int (i : Int) : f_whole [.int i] = .ok (.bl true) := by simp [f_whole, s_whole, isiB]
/-! ### the greatest common divisor -/
def s_ldiv : EvS := (sSeq (sWh (tV (eB2 oNe (eVar 1) (eC (.int 0))))
    (sPar 0 1 (eFl (eVar 1)) (eB2 oMod (eVar 0) (eVar 1))))
  (sRet (eBi oAbs (aCons (eVar 0) aNil))))
def f_ldiv : List D → Rs D := runF 0 s_ldiv
theorem ldiv_loop : ∀ (n : Nat) (a b : Int), b.natAbs ≤ n → ∃ g : Int, g.natAbs = Int.gcd a b ∧ sWh (tV (eB2 oNe (eVar 1) (eC (.int 0)))) (sPar 0 1 (eFl (eVar 1)) (eB2 oMod (eVar 0) (eVar 1))) [some (.int a), some (.int b)] = .ok (.nx [some (.int g), some (.int 0)])
  | n, a, b, h => by
    rw [sWh_eq]
    by_cases hb : b = 0
    · subst hb
      exact ⟨a, by simp, by simp⟩
    · have h1 := fmod_lt (a := a) hb
      cases n with
      | zero => omega
      | succ n =>
        obtain ⟨g, e1, e2⟩ := ldiv_loop n b (a.fmod b) (by omega)
        rw [gcd_fmod] at e1
        exact ⟨g, e1, by simp [hb, oMod_int hb, e2]⟩
theorem ldiv_eq (a b : Int) : f_ldiv [.int a, .int b] = .ok (.int (Int.gcd a b)) := by
  obtain ⟨g, e1, e2⟩ := ldiv_loop _ a b (Nat.le_refl _)
  simp [f_ldiv, s_ldiv, e2, e1]
def s_div : EvS := (sSeq (sWh (tV (eB2 oNe (eVar 1) (eC (.int 0))))
    (sSeq (sAs 2 (eB2 oMod (eVar 0) (eVar 1)))
    (sSeq (sAs 0 (eFl (eVar 1)))
    (sAs 1 (eFl (eVar 2))))))
  (sRet (eBi oAbs (aCons (eVar 0) aNil))))
def f_div : List D → Rs D := runF 1 s_div
theorem div_loop : ∀ (n : Nat) (a b : Int) (o : Option D), b.natAbs ≤ n → ∃ (g : Int) (o' : Option D), g.natAbs = Int.gcd a b ∧ sWh (tV (eB2 oNe (eVar 1) (eC (.int 0)))) (sSeq (sAs 2 (eB2 oMod (eVar 0) (eVar 1)))
    (sSeq (sAs 0 (eFl (eVar 1)))
    (sAs 1 (eFl (eVar 2))))) [some (.int a), some (.int b), o] = .ok (.nx [some (.int g), some (.int 0), o'])
  | n, a, b, o, h => by
    rw [sWh_eq]
    by_cases hb : b = 0
    · subst hb
      exact ⟨a, o, by simp, by simp⟩
    · have h1 := fmod_lt (a := a) hb
      cases n with
      | zero => omega
      | succ n =>
        obtain ⟨g, o', e1, e2⟩ := div_loop n b (a.fmod b) (some (.int (a.fmod b))) (by omega)
        rw [gcd_fmod] at e1
        exact ⟨g, o', e1, by simp [hb, oMod_int hb, e2]⟩
theorem div_eq (a b : Int) : f_div [.int a, .int b] = .ok (.int (Int.gcd a b)) := by
  obtain ⟨g, o', e1, e2⟩ := div_loop _ a b none (Nat.le_refl _)
  simp [f_div, s_div, e2, e1]
/-! ### fractions -/
def s_ratio : EvS := (sSeq (sIf (tV (eB2 oEq (eVar 1) (eC (.int 0))))
    (sRai 0)
    sNil)
  (sSeq (sAs 2 (eCall f_div (aCons (eVar 0) (aCons (eVar 1) aNil))))
  (sSeq (sIf (tV (eB2 oLt (eVar 1) (eC (.int 0))))
    (sAs 2 (eB2 oSub (eC (.int 0)) (eVar 2)))
    sNil)
  (sRet (eTup (aCons (eB2 oDiv (eVar 0) (eVar 2)) (aCons (eB2 oDiv (eVar 1) (eVar 2)) aNil)))))))
def f_ratio : List D → Rs D := runF 1 s_ratio
def s_low : EvS := (sSeq (sAs 2 (eCall f_ldiv (aCons (eVar 0) (aCons (eVar 1) aNil))))
  (sRet (eTup (aCons (eB2 oDiv (eVar 0) (eVar 2)) (aCons (eB2 oDiv (eVar 1) (eVar 2)) aNil)))))
def f_low : List D → Rs D := runF 1 s_low
/-- the part, with the bottom's sign -/
def prt (t b : Int) : Int := if b < 0 then -(Int.gcd t b : Int) else (Int.gcd t b : Int)
def nu (t b : Int) : Int := t.fdiv (prt t b)
def de (t b : Int) : Int := b.fdiv (prt t b)
/-- a fraction as the program keeps it -/
def fr (t b : Int) : D := .tup [.int (nu t b), .int (de t b)]
section
variable {t b : Int}
theorem gcd_ne (hb : b ≠ 0) : 0 < Int.gcd t b := Nat.pos_of_ne_zero fun e => hb (Int.eq_zero_of_gcd_eq_zero_right e)
theorem prt_abs : (prt t b).natAbs = Int.gcd t b := by
  unfold prt
  split <;> omega
theorem prt_ne (hb : b ≠ 0) : prt t b ≠ 0 := by
  have h1 := gcd_ne (t := t) hb
  have h2 := prt_abs (t := t) (b := b)
  omega
theorem prt_dvd_t : prt t b ∣ t := Int.natAbs_dvd.mp (by rw [prt_abs]; exact Int.gcd_dvd_left ..)
theorem prt_dvd_b : prt t b ∣ b := Int.natAbs_dvd.mp (by rw [prt_abs]; exact Int.gcd_dvd_right ..)
theorem nu_mul (hb : b ≠ 0) : t = prt t b * nu t b := by
  obtain ⟨p, hp⟩ := prt_dvd_t (t := t) (b := b)
  have : nu t b = p := by
    unfold nu
    conv => lhs; arg 1; rw [hp]
    exact Int.mul_fdiv_cancel_left p (prt_ne hb)
  rw [this]
  exact hp
theorem de_mul (hb : b ≠ 0) : b = prt t b * de t b := by
  obtain ⟨p, hp⟩ := prt_dvd_b (t := t) (b := b)
  have : de t b = p := by
    unfold de
    conv => lhs; arg 1; rw [hp]
    exact Int.mul_fdiv_cancel_left p (prt_ne hb)
  rw [this]
  exact hp
theorem prt_le (hb : b ≠ 0) : (prt t b).natAbs ≤ b.natAbs := by
  rw [prt_abs]
  exact Nat.le_of_dvd (by omega) (Nat.gcd_dvd_right t.natAbs b.natAbs)
theorem de_pos (hb : b ≠ 0) : 0 < de t b := by
  have h1 := de_mul (t := t) hb
  have h0 := gcd_ne (t := t) hb
  have h2 : 0 < prt t b * b := by
    unfold prt
    split
    · rename_i h
      exact Int.mul_pos_of_neg_of_neg (by omega) h
    · exact Int.mul_pos (by omega) (by omega)
  have h3 : 0 < prt t b * prt t b := by
    rcases Int.lt_or_lt_of_ne (prt_ne (t := t) hb) with z | z
    · exact Int.mul_pos_of_neg_of_neg z z
    · exact Int.mul_pos z z
  have h4 : prt t b * b = de t b * (prt t b * prt t b) := by
    conv => lhs; arg 2; rw [h1]
    rw [← Int.mul_assoc, Int.mul_comm]
  rw [h4] at h2
  exact Int.pos_of_mul_pos_left h2 h3
theorem cop (hb : b ≠ 0) : Int.gcd (nu t b) (de t b) = 1 := by
  have h2 : Int.gcd (prt t b * nu t b) (prt t b * de t b) = (prt t b).natAbs * Int.gcd (nu t b) (de t b) := Int.gcd_mul_left ..
  rw [← nu_mul hb, ← de_mul hb, prt_abs] at h2
  exact (Nat.eq_of_mul_eq_mul_left (gcd_ne (t := t) hb) (by omega)).symm
theorem across (hb : b ≠ 0) : nu t b * b = t * de t b := by
  have h1 := nu_mul (t := t) hb
  have h2 := de_mul (t := t) hb
  generalize prt t b = c at h1 h2
  generalize nu t b = p at h1 h2
  generalize de t b = q at h1 h2
  rw [h1, h2, Int.mul_comm c p, Int.mul_assoc]
theorem nu_le (hb : b ≠ 0) : (nu t b).natAbs ≤ t.natAbs := by
  have h1 := nu_mul (t := t) hb
  have h2 := prt_ne (t := t) hb
  have h3 : t.natAbs = (prt t b).natAbs * (nu t b).natAbs := by rw [← Int.natAbs_mul, ← h1]
  rw [h3]
  exact Nat.le_mul_of_pos_left _ (by omega)
theorem de_le (hb : b ≠ 0) : (de t b).natAbs ≤ b.natAbs := by
  have h1 := de_mul (t := t) hb
  have h2 := prt_ne (t := t) hb
  have h3 : b.natAbs = (prt t b).natAbs * (de t b).natAbs := by rw [← Int.natAbs_mul, ← h1]
  rw [h3]
  exact Nat.le_mul_of_pos_left _ (by omega)
/-- what is in lowest terms stays -/
theorem nu_low (hb : 0 < b) (h : Int.gcd t b = 1) : nu t b = t := by
  unfold nu prt
  rw [if_neg (by omega), h]
  exact Int.fdiv_one t
theorem de_low (hb : 0 < b) (h : Int.gcd t b = 1) : de t b = b := by
  unfold de prt
  rw [if_neg (by omega), h]
  exact Int.fdiv_one b
theorem prt_ok (hb : b ≠ 0) (h : b.natAbs < 2 ^ 4000) (i : Int) : divOk i (prt t b) = true := divOk_of (m := 4000) (prt_ne hb) (Nat.lt_of_le_of_lt (prt_le hb) h) (by decide) (by decide)
theorem ratio_eq (hb : b ≠ 0) (h : b.natAbs < 2 ^ 4000) : f_ratio [.int t, .int b] = .ok (fr t b) := by
  have h1 := prt_ok (t := t) hb h t
  have h2 := prt_ok (t := t) hb h b
  unfold fr nu de
  unfold prt at h1 h2 ⊢
  by_cases hn : b < 0
  · rw [if_pos hn] at h1 h2 ⊢
    simp [f_ratio, s_ratio, hb, hn, div_eq, oDiv_int h1, oDiv_int h2]
  · rw [if_neg hn] at h1 h2 ⊢
    simp [f_ratio, s_ratio, hb, hn, div_eq, oDiv_int h1, oDiv_int h2]
theorem ratio_0 : f_ratio [.int t, .int 0] = .error (.raise 0) := by simp [f_ratio, s_ratio]
theorem low_eq (hb : 0 < b) (h : b.natAbs < 2 ^ 4000) : f_low [.int t, .int b] = .ok (fr t b) := by
  have h1 := prt_ok (t := t) (by omega) h t
  have h2 := prt_ok (t := t) (by omega) h b
  unfold fr nu de
  unfold prt at h1 h2 ⊢
  rw [if_neg (by omega)] at h1 h2 ⊢
  simp [f_low, s_low, ldiv_eq, oDiv_int h1, oDiv_int h2]
end
/-! ### bounds -/
/-- below 2 ^ n -/
def B (n : Nat) (i : Int) : Prop := i.natAbs < 2 ^ n
theorem B.mul {m n : Nat} {i j : Int} (h : B m i) (k : B n j) : B (m + n) (i * j) := by
  unfold B at *
  rw [Int.natAbs_mul, Nat.pow_add]
  exact Nat.mul_lt_mul'' h k
theorem B.mono {m n : Nat} {i : Int} (h : B m i) (k : m ≤ n) : B n i := Nat.lt_of_lt_of_le h (Nat.pow_le_pow_right (by decide) k)
theorem B.add {n : Nat} {i j : Int} (h : B n i) (k : B n j) : B (n + 1) (i + j) := by
  unfold B at *
  rw [Nat.pow_succ]
  have := Int.natAbs_add_le i j
  omega
theorem B.sub {n : Nat} {i j : Int} (h : B n i) (k : B n j) : B (n + 1) (i - j) := by
  unfold B at *
  rw [Nat.pow_succ]
  have := Int.natAbs_sub_le i j
  omega
theorem B.le {n : Nat} {i j : Int} (h : B n i) (k : j.natAbs ≤ i.natAbs) : B n j := Nat.lt_of_le_of_lt k h
theorem B.ok {m n : Nat} {i j : Int} (h : B m i) (k : B n j) (hm : m < 40000000 := by decide) (hn : n < 40000000 := by decide) : mulOk i j = true :=
  mulOk_of (m := m + 1) (n := n + 1) (h.mono (by omega)) (k.mono (by omega)) (by omega) (by omega) (by omega)
end Co
end
noncomputable section
namespace Co
open PySem PySem.Spec PyProof.Rows L2 Pi
/-! ### the drawn roads -/
def s_tmixed : EvS := (sRet (eB2 oAdd (eB2 oMul (eB2 oAdd (eB2 oMod (eVar 0) (eB2 oPow (eC (.int 10)) (eC (.int 60)))) (eFl (eB2 oMul (eVar 1) (eVar 1)))) (eC (.int 6364136223846793013))) (eB2 oMul (eFl (eB2 oAdd (eVar 1) (eC (.int 1)))) (eC (.int 1442695040888963407)))))
def f_tmixed : List D → Rs D := runF 0 s_tmixed
def s_tnumbers : EvS := (sSeq (sAs 3 (eLst aNil))
  (sSeq (sAs 4 (eFl (eVar 0)))
  (sSeq (sFor (iRn (aCons (eVar 1) aNil)) (set1 5)
    (sIf (tV (eB2 oLt (eVar 0) (eB2 oPow (eC (.int 10)) (eC (.int 18)))))
    (sApp 3 (eB2 oMod (eB2 oDiv (eCall f_tmixed (aCons (eVar 0) (aCons (eVar 5) aNil))) (eC (.int 97))) (eVar 2)))
    (sSeq (sApp 3 (eB2 oMod (eVar 4) (eVar 2)))
  (sAs 4 (eB2 oDiv (eVar 4) (eVar 2))))))
  (sRet (eVar 3)))))
def f_tnumbers : List D → Rs D := runF 3 s_tnumbers
def s_tlow : EvS := (sSeq (sAs 2 (eBi oAbs (aCons (eVar 0) aNil)))
  (sSeq (sAs 3 (eFl (eVar 1)))
  (sSeq (sWh (tV (eB2 oGt (eVar 3) (eC (.int 0))))
    (sPar 2 3 (eFl (eVar 3)) (eB2 oMod (eVar 2) (eVar 3))))
  (sRet (eTup (aCons (eB2 oDiv (eVar 0) (eVar 2)) (aCons (eB2 oDiv (eVar 1) (eVar 2)) aNil)))))))
def f_tlow : List D → Rs D := runF 2 s_tlow
def s_tprice_by : EvS := (sSeq (sIf (tV (eVar 1))
    (sRet (eCall f_tlow (aCons (eB2 oMod (eVar 0) (eB2 oPow (eC (.int 10)) (eC (.int 30)))) (aCons (eB2 oAdd (eC (.int 1)) (eB2 oMod (eB2 oDiv (eVar 0) (eB2 oPow (eC (.int 10)) (eC (.int 30)))) (eB2 oSub (eB2 oPow (eC (.int 10)) (eC (.int 30))) (eC (.int 1))))) aNil))))
    sNil)
  (sRet (eCall f_tlow (aCons (eB2 oMod (eVar 0) (eC (.int 13))) (aCons (eB2 oAdd (eC (.int 1)) (eB2 oMod (eB2 oDiv (eVar 0) (eC (.int 13))) (eC (.int 6)))) aNil)))))
def f_tprice_by : List D → Rs D := runF 0 s_tprice_by
def s_troads_by : EvS := (sSeq (sAs 2 (eCall f_cell (aCons (eVar 0) (aCons (eC (.int 0)) aNil))))
  (sSeq (sAs 3 (eB2 oMod (eVar 2) (eFl (eB2 oAdd (eVar 1) (eC (.int 1))))))
  (sSeq (sAs 4 (eB2 oEq (eB2 oMod (eB2 oDiv (eVar 2) (eC (.int 50))) (eC (.int 6))) (eC (.int 1))))
  (sSeq (sIf (tV (eVar 4))
    (sAs 3 (eB2 oMod (eVar 3) (eC (.int 5))))
    (sIf (tV (eB2 oEq (eB2 oMod (eB2 oDiv (eVar 2) (eC (.int 50))) (eC (.int 6))) (eC (.int 2))))
    (sAs 3 (eB2 oMod (eB2 oDiv (eVar 2) (eC (.int 300))) (eC (.int 21))))
    sNil))
  (sSeq (sAs 5 (eRgL2 (eC (.int 1)) (eB2 oAdd (eVar 3) (eC (.int 1)))))
  (sSeq (sFor (iEn (aCons (eCall f_tnumbers (aCons (eCall f_cell (aCons (eVar 0) (aCons (eC (.int 1)) aNil))) (aCons (eVar 3) (aCons (eC (.int 41)) aNil)))) aNil)) (setT [6, 7])
    (sSeq (sAs 8 (eB2 oMod (eVar 7) (eB2 oAdd (eVar 6) (eC (.int 1)))))
  (sSw 5 (eTup (aCons (eB2 oIx (eVar 5) (eVar 8)) (aCons (eB2 oIx (eVar 5) (eVar 6)) aNil))) (eVar 6) (eVar 8))))
  (sSeq (sAs 9 (eLc [6] (iRn (aCons (eVar 3) aNil)) (set1 6) (fun _ => .ok true) (eTup (aCons (eC (.int 0)) (aCons (eTup (aCons (eC (.int 0)) (aCons (eC (.int 1)) aNil))) aNil)))))
  (sSeq (sAs 10 (eCall f_tnumbers (aCons (eCall f_cell (aCons (eVar 0) (aCons (eC (.int 3)) aNil))) (aCons (eVar 3) (aCons (eB2 oIx (eLst (aCons (eC (.int 78)) (aCons (eB2 oPow (eC (.int 10)) (eC (.int 60))) aNil))) (eBi oInt (aCons (eVar 4) aNil))) aNil)))))
  (sSeq (sFor (iEn (aCons (eCall f_tnumbers (aCons (eCall f_cell (aCons (eVar 0) (aCons (eC (.int 2)) aNil))) (aCons (eVar 3) (aCons (eC (.int 1681)) aNil)))) aNil)) (setT [6, 7])
    (sSeq (sAs 11 (eFl (eB2 oIx (eB2 oAdd (eLst (aCons (eC (.int 0)) aNil)) (eVar 5)) (eB2 oSub (eVar 6) (eB2 oMod (eVar 7) (eBi oMin (aCons (eB2 oAdd (eVar 6) (eC (.int 1))) (aCons (eB2 oAdd (eC (.int 1)) (eB2 oMod (eB2 oDiv (eVar 7) (eC (.int 41))) (eC (.int 41)))) aNil))))))))
  (sSub 9 (eB2 oSub (eB2 oIx (eVar 5) (eVar 6)) (eC (.int 1))) (eTup (aCons (eVar 11) (aCons (eCall f_tprice_by (aCons (eB2 oIx (eVar 10) (eVar 6)) (aCons (eVar 4) aNil))) aNil))))))
  (sRet (eVar 9)))))))))))
def f_troads_by : List D → Rs D := runF 10 s_troads_by
theorem tmixed_eq {c : Int} {k : Nat} (hk : k < 1000000) : ∃ r : Int, f_tmixed [.int c, .int k] = .ok (.int r) := by
  have p60 : oPow (.int 10) (.int 60) = some (.int 1000000000000000000000000000000000000000000000000000000000000) := rfl
  have m1 : mulOk (k : Int) (k : Int) = true := mulOk_l (by omega)
  have m2 : ∀ i, mulOk i 6364136223846793013 = true := fun i => mulOk_r (by decide)
  have m3 : ∀ i, mulOk i 1442695040888963407 = true := fun i => mulOk_r (by decide)
  exact ⟨_, by simp [f_tmixed, s_tmixed, p60, oMod_int, oMul_int m1, oMul_int (m2 _), oMul_int (m3 _)]; rfl⟩
/-- whole numbers from 0 on, below most -/
def Bel (most : Int) (l : List Int) : Prop := ∀ x, x ∈ l → 0 ≤ x ∧ x < most
theorem tnumbers_loop {c most : Int} (h0 : 0 < most) (hm : B 2000 most) (m : D) : ∀ (ks : List Nat) (acc : List Int) (rest : Int) (o : Option D), (∀ k, k ∈ ks → k < 1000000) → acc.length + ks.length < 16777216 →
    ∃ (l : List Int) (rest' : Int) (o' : Option D), l.length = ks.length ∧ Bel most l ∧ evFor (set1 5) (sIf (tV (eB2 oLt (eVar 0) (eB2 oPow (eC (.int 10)) (eC (.int 18)))))
      (sApp 3 (eB2 oMod (eB2 oDiv (eCall f_tmixed (aCons (eVar 0) (aCons (eVar 5) aNil))) (eC (.int 97))) (eVar 2)))
      (sSeq (sApp 3 (eB2 oMod (eVar 4) (eVar 2)))
      (sAs 4 (eB2 oDiv (eVar 4) (eVar 2))))) (ks.map fun k : Nat => D.int k) [some (.int c), some m, some (.int most), some (.lst (acc.map .int)), some (.int rest), o] =
      .ok (.nx [some (.int c), some m, some (.int most), some (.lst ((acc ++ l).map .int)), some (.int rest'), o'])
  | [], acc, rest, o, _, _ => ⟨[], rest, o, rfl, (fun x h => (nomatch h)), by simp [evFor]⟩
  | k :: ks, acc, rest, o, hk, hl => by
    have p18 : oPow (.int 10) (.int 18) = some (.int 1000000000000000000) := rfl
    have hne : most ≠ 0 := by omega
    have sz : acc.length < sizeLine := by rw [sizeLine_eq]; simp at hl; omega
    have md : ∀ x : Int, 0 ≤ x.fmod most ∧ x.fmod most < most := fun x => ⟨Int.fmod_nonneg_of_pos x h0, Int.fmod_lt_of_pos x h0⟩
    obtain ⟨r, er⟩ := tmixed_eq (c := c) (hk k List.mem_cons_self)
    by_cases hc : c < 1000000000000000000
    · have hd : oDiv (.int r) (.int 97) = some (.int (r.fdiv 97)) := oDiv_int (divOk_of (m := 7) (by decide) (by decide) (by decide) (by decide))
      obtain ⟨l, rest', o', h1, h2, h3⟩ := tnumbers_loop (c := c) h0 hm m ks (acc ++ [(r.fdiv 97).fmod most]) rest (some (.int k)) (fun x hx => hk x (List.mem_cons_of_mem _ hx)) (by simp at hl ⊢; omega)
      refine ⟨(r.fdiv 97).fmod most :: l, rest', o', by simp [h1], fun x hx => ?_, ?_⟩
      · rcases List.mem_cons.mp hx with e | hx
        · rw [e]; exact md _
        · exact h2 x hx
      · simp only [List.map_append, List.map_cons, List.map_nil, List.append_assoc, List.cons_append, List.nil_append] at h3
        simp [evFor, p18, hc, er, hd, oMod_int hne, sz, h3]
    · have hd : oDiv (.int rest) (.int most) = some (.int (rest.fdiv most)) := oDiv_int (divOk_of (m := 2000) hne hm (by decide) (by decide))
      obtain ⟨l, rest', o', h1, h2, h3⟩ := tnumbers_loop (c := c) h0 hm m ks (acc ++ [rest.fmod most]) (rest.fdiv most) (some (.int k)) (fun x hx => hk x (List.mem_cons_of_mem _ hx)) (by simp at hl ⊢; omega)
      refine ⟨rest.fmod most :: l, rest', o', by simp [h1], fun x hx => ?_, ?_⟩
      · rcases List.mem_cons.mp hx with e | hx
        · rw [e]; exact md _
        · exact h2 x hx
      · simp only [List.map_append, List.map_cons, List.map_nil, List.append_assoc, List.cons_append, List.nil_append] at h3
        simp [evFor, p18, hc, hd, oMod_int hne, sz, h3]
theorem irng_nat (n : Nat) : irng 0 n = (List.range n).map fun k : Nat => D.int k := by
  unfold irng
  simp
theorem bd62_nat {m : Nat} (h : m < 1000000) : bd62 (m : Int) = true := by
  unfold bd62
  rw [Bool.and_eq_true, decide_eq_true_eq, decide_eq_true_eq]
  have e : (2 : Int) ^ 62 = 4611686018427387904 := by decide
  rw [e]
  omega
theorem rng_len {m : Nat} (h : m < 1000000) : ([] : List Int).length + (List.range m).length < 16777216 := by
  rw [List.length_range, List.length_nil]
  omega
theorem rng_lt {m : Nat} (h : m < 1000000) : ∀ k, k ∈ List.range m → k < 1000000 := fun k hk => Nat.lt_trans (List.mem_range.mp hk) h
theorem oRng_nat {m : Nat} (h : m < 1000000) : oRng [.int (m : Int)] = some ((List.range m).map fun k : Nat => D.int k) := by
  rw [← irng_nat m]
  show (if bd62 (m : Int) = true then some (irng 0 (m : Int).toNat) else none) = _
  rw [if_pos (bd62_nat h), Int.toNat_natCast]
theorem tnumbers_eq {c most : Int} (h0 : 0 < most) (hm : B 2000 most) {m : Nat} (hmm : m < 1000000) : ∃ l : List Int, l.length = m ∧ Bel most l ∧ f_tnumbers [.int c, .int m, .int most] = .ok (.lst (l.map .int)) := by
  obtain ⟨l, rest', o', h1, h2, h3⟩ := tnumbers_loop (c := c) h0 hm (.int m) (List.range m) [] c none (rng_lt hmm) (rng_len hmm)
  refine ⟨l, by rw [h1, List.length_range], h2, ?_⟩
  simp only [List.map_nil, List.nil_append] at h3
  have h4 := oRng_nat hmm
  generalize (List.range m).map (fun k : Nat => D.int k) = L at h3 h4
  generalize (m : Int) = M at h3 h4 ⊢
  unfold f_tnumbers
  rw [runF_ap]
  show endR (s_tnumbers [some (.int c), some (.int M), some (.int most), none, none, none]) = _
  unfold s_tnumbers
  rw [sSeq_ap, sAs_ap, eLst_ap, aNil_ap, bnd_ok, bnd_ok, bnd_ok]
  show endR (sSeq _ _ [some (.int c), some (.int M), some (.int most), some (.lst []), none, none]) = _
  rw [sSeq_ap, sAs_ap, eFl_ap, eVar_0, bnd_ok, if_pos (flat_int c), bnd_ok, bnd_ok]
  show endR (sSeq _ _ [some (.int c), some (.int M), some (.int most), some (.lst []), some (.int c), none]) = _
  rw [sSeq_ap, sFor_ap, iRn_ap, aCons_ap, eVar_s, eVar_0, bnd_ok, aNil_ap, bnd_ok, bnd_ok, h4, ofO_some, bnd_ok, h3, bnd_ok]
  rfl
theorem tlow_loop (t b : D) : ∀ (n : Nat) (x y : Int), y.natAbs ≤ n → 0 ≤ x → 0 ≤ y → sWh (tV (eB2 oGt (eVar 3) (eC (.int 0))))
    (sPar 2 3 (eFl (eVar 3)) (eB2 oMod (eVar 2) (eVar 3))) [some t, some b, some (.int x), some (.int y)] = .ok (.nx [some t, some b, some (.int (Int.gcd x y)), some (.int 0)])
  | n, x, y, h, hx, hy => by
    rw [sWh_eq]
    by_cases hb : y = 0
    · subst hb
      have : (x.natAbs : Int) = x := by omega
      simp [this]
    · have h1 := fmod_lt (a := x) hb
      have h2 := Int.fmod_nonneg_of_pos x (b := y) (by omega)
      have hp : 0 < y := by omega
      cases n with
      | zero => omega
      | succ n =>
        have ih := tlow_loop t b n y (x.fmod y) (by omega) hy h2
        rw [gcd_fmod] at ih
        simp [hp, oMod_int hb, ih]
theorem tlow_eq {t b : Int} (ht : 0 ≤ t) (hb : 0 < b) (h : b.natAbs < 2 ^ 4000) : f_tlow [.int t, .int b] = .ok (fr t b) := by
  have h1 := prt_ok (t := t) (by omega) h t
  have h2 := prt_ok (t := t) (by omega) h b
  have hl := tlow_loop (.int t) (.int b) _ t b (Nat.le_refl _) ht (by omega)
  have ha : ((t.natAbs : Nat) : Int) = t := by omega
  unfold fr nu de
  unfold prt at h1 h2 ⊢
  rw [if_neg (by omega)] at h1 h2 ⊢
  simp [f_tlow, s_tlow, ha, hl, oDiv_int h1, oDiv_int h2]
/-- a price: a fraction not below 0 in lowest terms -/
structure Prc (p q : Int) : Prop where
  p0 : 0 ≤ p
  q1 : 0 < q
  cop : Int.gcd p q = 1
  bp : B 210 p
  bq : B 210 q
theorem fr_prc {t b : Int} (ht : 0 ≤ t) (hb : 0 < b) (h1 : B 210 t) (h2 : B 210 b) : Prc (nu t b) (de t b) := by
  have hb0 : b ≠ 0 := by omega
  refine ⟨?_, de_pos hb0, cop hb0, h1.le (nu_le hb0), h2.le (de_le hb0)⟩
  have e := across (t := t) hb0
  have d := de_pos (t := t) hb0
  rcases Int.lt_or_le (nu t b) 0 with z | z
  · have : nu t b * b < 0 := Int.mul_neg_of_neg_of_pos z hb
    have : 0 ≤ t * de t b := Int.mul_nonneg ht (by omega)
    omega
  · exact z
theorem tprice_eq (x : Int) (hx : 0 ≤ x) (hB : B 205 x) (wide : Bool) : ∃ p q : Int, Prc p q ∧ f_tprice_by [.int x, .bl wide] = .ok (.tup [.int p, .int q]) := by
  have p30 : oPow (.int 10) (.int 30) = some (.int 1000000000000000000000000000000) := rfl
  have big : ∀ b : Int, B 210 b → b.natAbs < 2 ^ 4000 := fun b hb => hb.mono (by decide : 210 ≤ 4000)
  cases wide with
  | true =>
    have hd : oDiv (.int x) (.int 1000000000000000000000000000000) = some (.int (x.fdiv 1000000000000000000000000000000)) := oDiv_int (divOk_of (m := 101) (by decide) (by decide) (by decide) (by decide))
    have a1 := Int.fmod_nonneg_of_pos x (b := 1000000000000000000000000000000) (by decide)
    have a2 := Int.fmod_lt_of_pos x (b := 1000000000000000000000000000000) (by decide)
    have b1 := Int.fmod_nonneg_of_pos (x.fdiv 1000000000000000000000000000000) (b := 999999999999999999999999999999) (by decide)
    have b2 := Int.fmod_lt_of_pos (x.fdiv 1000000000000000000000000000000) (b := 999999999999999999999999999999) (by decide)
    generalize hT : x.fmod 1000000000000000000000000000000 = t at a1 a2
    generalize hZ : (x.fdiv 1000000000000000000000000000000).fmod 999999999999999999999999999999 = z at b1 b2
    have B1 : B 210 t := B.mono (m := 101) (by unfold B; omega) (by decide)
    have B2 : B 210 (1 + z) := B.mono (m := 101) (by unfold B; omega) (by decide)
    refine ⟨_, _, fr_prc a1 (show 0 < 1 + z by omega) B1 B2, ?_⟩
    have e := tlow_eq a1 (show 0 < 1 + z by omega) (big _ B2)
    simp [f_tprice_by, s_tprice_by, p30, oMod_int, hd, hT, hZ, e]
    rfl
  | false =>
    have hd : oDiv (.int x) (.int 13) = some (.int (x.fdiv 13)) := oDiv_int (divOk_of (m := 5) (by decide) (by decide) (by decide) (by decide))
    have a1 := Int.fmod_nonneg_of_pos x (b := 13) (by decide)
    have a2 := Int.fmod_lt_of_pos x (b := 13) (by decide)
    have b1 := Int.fmod_nonneg_of_pos (x.fdiv 13) (b := 6) (by decide)
    have b2 := Int.fmod_lt_of_pos (x.fdiv 13) (b := 6) (by decide)
    generalize hT : x.fmod 13 = t at a1 a2
    generalize hZ : (x.fdiv 13).fmod 6 = z at b1 b2
    have B1 : B 210 t := B.mono (m := 101) (by unfold B; omega) (by decide)
    have B2 : B 210 (1 + z) := B.mono (m := 101) (by unfold B; omega) (by decide)
    refine ⟨_, _, fr_prc a1 (show 0 < 1 + z by omega) B1 B2, ?_⟩
    have e := tlow_eq a1 (show 0 < 1 + z by omega) (big _ B2)
    simp [f_tprice_by, s_tprice_by, oMod_int, hd, hT, hZ, e]
    rfl
end Co
end
noncomputable section
namespace Co
open PySem PySem.Spec PyProof.Rows L2 Pi
/-- whole numbers as data -/
def tn (T : List Nat) : List D := T.map fun k : Nat => D.int k
theorem tn_len (T : List Nat) : (tn T).length = T.length := by simp [tn]
theorem tn_at {T : List Nat} {k : Nat} (h : k < T.length) : oIx (.lst (tn T)) (.int k) = some (.int (T[k] : Nat)) := by
  rw [oIx_lst (by rw [tn_len]; exact h)]
  simp [tn]
theorem tn_set (T : List Nat) (k v : Nat) : (tn T).set k (.int v) = tn (T.set k v) := by simp [tn, List.map_set]
theorem ixN_nat {n k : Nat} (h : k < n) : ixN n (k : Int) = some k := by
  unfold ixN
  rw [if_pos (by omega), if_pos (by omega)]
  simp
theorem sSw_tn {en : En} {T : List Nat} {i a b : Nat} {va vb : Nat} {ev ek ek2 : EvE} (hi : en[i]? = some (some (.lst (tn T)))) (he : ev en = .ok (.tup [.int (va : Nat), .int (vb : Nat)])) (h1 : ek en = .ok (.int (a : Nat))) (h2 : ∀ l, ek2 (en.set i (some l)) = .ok (.int (b : Nat))) (ha : a < T.length) (hb : b < T.length) :
    sSw i ev ek ek2 en = .ok (.nx (en.set i (some (.lst (tn ((T.set a va).set b vb)))))) := by
  have hlt : i < en.length := (List.getElem?_eq_some_iff.mp hi).1
  have g1 : getL i en = .ok (tn T) := by unfold getL; rw [hi]
  have s1 : subL i ek (.int (va : Nat)) en = .ok (en.set i (some (.lst (tn (T.set a va))))) := by
    unfold subL
    rw [g1, bnd_ok, h1, bnd_ok]
    show (match ixN (tn T).length (a : Int) with | some n => _ | none => _) = _
    rw [tn_len, ixN_nat ha]
    show Except.ok (en.set i (some (.lst ((tn T).set a (.int va))))) = _
    rw [tn_set]
  have g2 : getL i (en.set i (some (.lst (tn (T.set a va))))) = .ok (tn (T.set a va)) := by unfold getL; rw [List.getElem?_set_self hlt]
  have s2 : subL i ek2 (.int (vb : Nat)) (en.set i (some (.lst (tn (T.set a va))))) = .ok (en.set i (some (.lst (tn ((T.set a va).set b vb))))) := by
    unfold subL
    rw [g2, bnd_ok, h2, bnd_ok]
    show (match ixN (tn (T.set a va)).length (b : Int) with | some n => _ | none => _) = _
    rw [tn_len, List.length_set, ixN_nat hb]
    show Except.ok ((en.set i (some (.lst (tn (T.set a va))))).set i (some (.lst ((tn (T.set a va)).set b (.int vb))))) = _
    rw [tn_set, List.set_set]
  unfold sSw
  rw [he, bnd_ok]
  show bnd (subL i ek (.int (va : Nat)) en) _ = _
  rw [s1, bnd_ok, s2, bnd_ok]
/-- one swap of the drawing -/
abbrev bSw : EvS := sSeq (sAs 8 (eB2 oMod (eVar 7) (eB2 oAdd (eVar 6) (eC (.int 1)))))
  (sSw 5 (eTup (aCons (eB2 oIx (eVar 5) (eVar 8)) (aCons (eB2 oIx (eVar 5) (eVar 6)) aNil))) (eVar 6) (eVar 8))
theorem bSw_eq {a0 a1 a2 a3 a4 o6 o7 o8 o9 o10 o11 : Option D} {T : List Nat} {k : Nat} {x : Int} (hk : k < T.length) (hx : 0 ≤ x) : ∃ (T' : List Nat) (o : Nat), T'.Perm T ∧ bSw [a0, a1, a2, a3, a4, some (.lst (tn T)), some (.int k), some (.int x), o8, o9, o10, o11] = .ok (.nx [a0, a1, a2, a3, a4, some (.lst (tn T')), some (.int k), some (.int x), some (.int (o : Nat)), o9, o10, o11]) := by
  have h1 := Int.fmod_nonneg_of_pos x (b := (k : Int) + 1) (by omega)
  have h2 := Int.fmod_lt_of_pos x (b := (k : Int) + 1) (by omega)
  obtain ⟨o, ho⟩ : ∃ o : Nat, x.fmod ((k : Int) + 1) = o := ⟨(x.fmod ((k : Int) + 1)).toNat, by omega⟩
  rw [ho] at h1 h2
  have hol : o < T.length := by omega
  have z : (k : Int) + 1 ≠ 0 := by omega
  refine ⟨(T.set k T[o]).set o T[k], o, List.set_set_perm hk hol, ?_⟩
  have e8 : sAs 8 (eB2 oMod (eVar 7) (eB2 oAdd (eVar 6) (eC (.int 1)))) [a0, a1, a2, a3, a4, some (.lst (tn T)), some (.int k), some (.int x), o8, o9, o10, o11] = .ok (.nx [a0, a1, a2, a3, a4, some (.lst (tn T)), some (.int k), some (.int x), some (.int (o : Nat)), o9, o10, o11]) := by
    simp [oMod_int z, ho]
  unfold bSw
  rw [sSeq_ap, e8, bnd_ok]
  show sSw 5 _ _ _ _ = _
  rw [sSw_tn (T := T) (a := k) (b := o) (va := T[o]) (vb := T[k]) rfl (by simp [tn_at hol, tn_at hk]) (by simp) (fun l => by simp) hk hol]
  rfl
theorem swaps {a0 a1 a2 a3 a4 o9 o10 o11 : Option D} : ∀ (l : List Int) (i : Nat) (T : List Nat) (o6 o7 o8 : Option D), (∀ x, x ∈ l → 0 ≤ x) → i + l.length ≤ T.length →
    ∃ (T' : List Nat) (o6' o7' o8' : Option D), T'.Perm T ∧ evFor (setT [6, 7]) bSw (enumD i (l.map .int)) [a0, a1, a2, a3, a4, some (.lst (tn T)), o6, o7, o8, o9, o10, o11] = .ok (.nx [a0, a1, a2, a3, a4, some (.lst (tn T')), o6', o7', o8', o9, o10, o11])
  | [], i, T, o6, o7, o8, _, _ => ⟨T, o6, o7, o8, List.Perm.refl _, rfl⟩
  | x :: l, i, T, o6, o7, o8, hx, hl => by
    simp only [List.length_cons] at hl
    obtain ⟨T1, o, p1, e1⟩ := bSw_eq (a0 := a0) (a1 := a1) (a2 := a2) (a3 := a3) (a4 := a4) (o6 := o6) (o7 := o7) (o8 := o8) (o9 := o9) (o10 := o10) (o11 := o11) (T := T) (k := i) (x := x) (by omega) (hx x List.mem_cons_self)
    obtain ⟨T2, p6, p7, p8, q1, q2⟩ := swaps (a0 := a0) (a1 := a1) (a2 := a2) (a3 := a3) (a4 := a4) (o9 := o9) (o10 := o10) (o11 := o11) l (i + 1) T1 (some (.int i)) (some (.int x)) (some (.int (o : Nat))) (fun y hy => hx y (List.mem_cons_of_mem _ hy)) (by rw [p1.length_eq]; omega)
    refine ⟨T2, p6, p7, p8, q1.trans p1, ?_⟩
    show bnd (ofO (setT [6, 7] _ (.tup [.int i, .int x]))) _ = _
    show bnd (bSw [a0, a1, a2, a3, a4, some (.lst (tn T)), some (.int i), some (.int x), o8, o9, o10, o11]) _ = _
    rw [e1, bnd_ok]
    exact q2
/-- a road: where to, its price -/
abbrev Rd3 := Nat × Int × Int
def rd (r : Rd3) : D := .tup [.int (r.1 : Nat), .tup [.int r.2.1, .int r.2.2]]
abbrev bRd : EvS := sSeq (sAs 11 (eFl (eB2 oIx (eB2 oAdd (eLst (aCons (eC (.int 0)) aNil)) (eVar 5)) (eB2 oSub (eVar 6) (eB2 oMod (eVar 7) (eBi oMin (aCons (eB2 oAdd (eVar 6) (eC (.int 1))) (aCons (eB2 oAdd (eC (.int 1)) (eB2 oMod (eB2 oDiv (eVar 7) (eC (.int 41))) (eC (.int 41)))) aNil))))))))
  (sSub 9 (eB2 oSub (eB2 oIx (eVar 5) (eVar 6)) (eC (.int 1))) (eTup (aCons (eVar 11) (aCons (eCall f_tprice_by (aCons (eB2 oIx (eVar 10) (eVar 6)) (aCons (eVar 4) aNil))) aNil))))
theorem oMin_int (i j : Int) : oMin [.int i, .int j] = some (.int (if j < i then j else i)) := rfl
theorem bRd_eq {a0 a1 a2 a3 o8 o11 : Option D} {w : Bool} {T : List Nat} {Rs : List Rd3} {P : List Int} {k : Nat} {x : Int} (hk : k < T.length) (hR : Rs.length = T.length) (hP : P.length = T.length) (hT : ∀ t, t ∈ T → 1 ≤ t ∧ t ≤ T.length) (hn : T.length < 1000) (hB : Bel (10 ^ 60) P) (hx : 0 ≤ x) :
    ∃ (to : Nat) (p q : Int), (to = 0 ∨ ∃ (i : Nat) (h : i < k), T[i]'(by omega) = to) ∧ Prc p q ∧
    bRd [a0, a1, a2, a3, some (.bl w), some (.lst (tn T)), some (.int k), some (.int x), o8, some (.lst (Rs.map rd)), some (.lst (P.map .int)), o11] = .ok (.nx [a0, a1, a2, a3, some (.bl w), some (.lst (tn T)), some (.int k), some (.int x), o8, some (.lst ((Rs.set (T[k] - 1) (to, p, q)).map rd)), some (.lst (P.map .int)), some (.int (to : Nat))]) := by
  have hd : oDiv (.int x) (.int 41) = some (.int (x.fdiv 41)) := oDiv_int (divOk_of (m := 7) (by decide) (by decide) (by decide) (by decide))
  have b1 := Int.fmod_nonneg_of_pos (x.fdiv 41) (b := 41) (by decide)
  generalize hz : (x.fdiv 41).fmod 41 = z at b1
  obtain ⟨m, hm0, hm1, hm⟩ : ∃ m : Int, 0 < m ∧ m ≤ k + 1 ∧ (if 1 + z < (k : Int) + 1 then 1 + z else (k : Int) + 1) = m := ⟨_, by split <;> omega, by split <;> omega, rfl⟩
  have c1 := Int.fmod_nonneg_of_pos x (b := m) hm0
  have c2 := Int.fmod_lt_of_pos x (b := m) hm0
  obtain ⟨i, hi, hik⟩ : ∃ i : Nat, (k : Int) - x.fmod m = i ∧ i ≤ k := ⟨((k : Int) - x.fmod m).toNat, by omega, by omega⟩
  have sz : (tn T).length + 1 ≤ sizeLine := by rw [tn_len, sizeLine_eq]; omega
  obtain ⟨to, hto, eto⟩ : ∃ to : Nat, (to = 0 ∨ ∃ (j : Nat) (h : j < k), T[j]'(by omega) = to) ∧ oIx (.lst (.int 0 :: tn T)) (.int (i : Nat)) = some (.int (to : Nat)) := by
    cases i with
    | zero => exact ⟨0, .inl rfl, oIx_lst (n := 0) (by simp)⟩
    | succ i =>
      refine ⟨T[i]'(by omega), .inr ⟨i, by omega, rfl⟩, ?_⟩
      rw [oIx_lst (by simp [tn_len]; omega)]
      simp [tn]
  have hPk : k < P.length := by omega
  have pk := hB P[k] (List.getElem_mem hPk)
  obtain ⟨p, q, hpq, ep⟩ := tprice_eq P[k] pk.1 (by unfold B; have h := pk.2; have : (10 : Int) ^ 60 < 2 ^ 205 := by decide
                                                    omega) w
  have hTk := hT T[k] (List.getElem_mem hk)
  refine ⟨to, p, q, hto, hpq, ?_⟩
  have hmne : m ≠ 0 := by omega
  have cat : oAdd (.lst [.int 0]) (.lst (tn T)) = some (.lst (.int 0 :: tn T)) := by
    have : 1 + (tn T).length ≤ sizeLine := by omega
    simp [oAdd, this]
  have e11 : sAs 11 (eFl (eB2 oIx (eB2 oAdd (eLst (aCons (eC (.int 0)) aNil)) (eVar 5)) (eB2 oSub (eVar 6) (eB2 oMod (eVar 7) (eBi oMin (aCons (eB2 oAdd (eVar 6) (eC (.int 1))) (aCons (eB2 oAdd (eC (.int 1)) (eB2 oMod (eB2 oDiv (eVar 7) (eC (.int 41))) (eC (.int 41)))) aNil)))))))
      [a0, a1, a2, a3, some (.bl w), some (.lst (tn T)), some (.int k), some (.int x), o8, some (.lst (Rs.map rd)), some (.lst (P.map .int)), o11] = .ok (.nx [a0, a1, a2, a3, some (.bl w), some (.lst (tn T)), some (.int k), some (.int x), o8, some (.lst (Rs.map rd)), some (.lst (P.map .int)), some (.int (to : Nat))]) := by
    simp [cat, hd, oMod_int, hz, oMin_int, hm, hmne, hi, eto]
  have ix1 : ((T[k] : Nat) : Int) - 1 = ((T[k] - 1 : Nat) : Int) := by omega
  have ePk : oIx (.lst (P.map .int)) (.int k) = some (.int P[k]) := by
    rw [oIx_lst (by simpa using hPk)]
    simp
  unfold bRd
  rw [sSeq_ap, e11, bnd_ok]
  show sSub 9 _ _ _ = _
  have g9 : getL 9 [a0, a1, a2, a3, some (.bl w), some (.lst (tn T)), some (.int k), some (.int x), o8, some (.lst (Rs.map rd)), some (.lst (P.map .int)), some (.int (to : Nat))] = .ok (Rs.map rd) := rfl
  unfold sSub
  rw [g9, bnd_ok]
  have ev1 : eTup (aCons (eVar 11) (aCons (eCall f_tprice_by (aCons (eB2 oIx (eVar 10) (eVar 6)) (aCons (eVar 4) aNil))) aNil)) [a0, a1, a2, a3, some (.bl w), some (.lst (tn T)), some (.int k), some (.int x), o8, some (.lst (Rs.map rd)), some (.lst (P.map .int)), some (.int (to : Nat))] = .ok (rd (to, p, q)) := by
    simp [ePk, ep, rd]
  rw [ev1, bnd_ok]
  have ev2 : eB2 oSub (eB2 oIx (eVar 5) (eVar 6)) (eC (.int 1)) [a0, a1, a2, a3, some (.bl w), some (.lst (tn T)), some (.int k), some (.int x), o8, some (.lst (Rs.map rd)), some (.lst (P.map .int)), some (.int (to : Nat))] = .ok (.int ((T[k] - 1 : Nat) : Int)) := by
    simp [tn_at hk, ix1]
  rw [ev2, bnd_ok]
  show (match ixN (Rs.map rd).length ((T[k] - 1 : Nat) : Int) with | some n => _ | none => _) = _
  rw [List.length_map, ixN_nat (by omega)]
  rw [List.map_set]
  rfl
/-- the j-th turned crossing's road: to the market or to one turned before -/
def okR (T : List Nat) (j : Nat) (r : Rd3) : Prop := (r.1 = 0 ∨ ∃ i, i < j ∧ T[i]? = some r.1) ∧ Prc r.2.1 r.2.2
theorem roads_loop {a0 a1 a2 a3 o8 : Option D} {w : Bool} {T : List Nat} {P : List Int} (hP : P.length = T.length) (hT : ∀ t, t ∈ T → 1 ≤ t ∧ t ≤ T.length) (nd : T.Nodup) (hn : T.length < 1000) (hB : Bel (10 ^ 60) P) : ∀ (l : List Int) (k : Nat) (Rs : List Rd3) (o6 o7 o11 : Option D), (∀ x, x ∈ l → 0 ≤ x) → k + l.length ≤ T.length → Rs.length = T.length →
    ∃ (Rs' : List Rd3) (o6' o7' o11' : Option D), Rs'.length = T.length ∧ (∀ j t, k ≤ j → j < k + l.length → T[j]? = some t → ∃ r, Rs'[t - 1]? = some r ∧ okR T j r) ∧ (∀ j t, j < k → T[j]? = some t → Rs'[t - 1]? = Rs[t - 1]?) ∧
    evFor (setT [6, 7]) bRd (enumD k (l.map .int)) [a0, a1, a2, a3, some (.bl w), some (.lst (tn T)), o6, o7, o8, some (.lst (Rs.map rd)), some (.lst (P.map .int)), o11] = .ok (.nx [a0, a1, a2, a3, some (.bl w), some (.lst (tn T)), o6', o7', o8, some (.lst (Rs'.map rd)), some (.lst (P.map .int)), o11'])
  | [], k, Rs, o6, o7, o11, _, _, hR => ⟨Rs, o6, o7, o11, hR, fun j t h1 h2 _ => by simp at h2; omega, fun _ _ _ _ => rfl, rfl⟩
  | x :: l, k, Rs, o6, o7, o11, hx, hl, hR => by
    simp only [List.length_cons] at hl
    have hk : k < T.length := by omega
    obtain ⟨to, p, q, h1, h2, e1⟩ := bRd_eq (a0 := a0) (a1 := a1) (a2 := a2) (a3 := a3) (o8 := o8) (o11 := o11) (w := w) hk hR hP hT hn hB (hx x List.mem_cons_self)
    obtain ⟨Rs', p6, p7, p11, q0, q1, q2, q3⟩ := roads_loop (a0 := a0) (a1 := a1) (a2 := a2) (a3 := a3) (o8 := o8) (w := w) hP hT nd hn hB l (k + 1) (Rs.set (T[k] - 1) (to, p, q)) (some (.int k)) (some (.int x)) (some (.int (to : Nat))) (fun y hy => hx y (List.mem_cons_of_mem _ hy)) (by omega) (by simpa using hR)
    have hTk := hT T[k] (List.getElem_mem hk)
    have ok0 : okR T k (to, p, q) := ⟨h1.imp id fun ⟨i, hi, e⟩ => ⟨i, hi, by rw [List.getElem?_eq_getElem (by omega), e]⟩, h2⟩
    refine ⟨Rs', p6, p7, p11, q0, fun j t hj1 hj2 ht => ?_, fun j t hj ht => ?_, ?_⟩
    · by_cases e : j = k
      · subst e
        have et : T[j] = t := by rw [List.getElem?_eq_getElem hk] at ht; exact Option.some.inj ht
        refine ⟨(to, p, q), ?_, ok0⟩
        rw [q2 j t (Nat.lt_succ_self j) ht, ← et]
        exact List.getElem?_set_self (by omega)
      · exact q1 j t (by omega) (by simp at hj2; omega) ht
    · rw [q2 j t (by omega) ht]
      have hjT : j < T.length := (List.getElem?_eq_some_iff.mp ht).1
      have et : T[j] = t := by rw [List.getElem?_eq_getElem hjT] at ht; exact Option.some.inj ht
      have ne : T[k] ≠ t := fun e => by
        have h3 : T[k]? = T[j]? := by rw [List.getElem?_eq_getElem hk, ht, e]
        have := (List.getElem?_inj hk nd).mp h3
        omega
      have ht1 := hT t (by rw [← et]; exact List.getElem_mem hjT)
      exact List.getElem?_set_ne (by omega)
    · show bnd (bRd [a0, a1, a2, a3, some (.bl w), some (.lst (tn T)), some (.int k), some (.int x), o8, some (.lst (Rs.map rd)), some (.lst (P.map .int)), o11]) _ = _
      rw [e1, bnd_ok]
      exact q3
end Co
end
noncomputable section
namespace Co
open PySem PySem.Spec PyProof.Rows L2 Pi
theorem seq_nx {s t : EvS} {en en' : En} (h : s en = .ok (.nx en')) : sSeq s t en = t en' := by
  rw [sSeq_ap, h, bnd_ok]
theorem many_eq (h m : Int) (hm : 0 ≤ m) (hm8 : m ≤ 8) (a0 a1 : Option D) (r : En) : ∃ n : Nat, n ≤ 20 ∧ sIf (tV (eVar 4))
    (sAs 3 (eB2 oMod (eVar 3) (eC (.int 5))))
    (sIf (tV (eB2 oEq (eB2 oMod (eB2 oDiv (eVar 2) (eC (.int 50))) (eC (.int 6))) (eC (.int 2))))
    (sAs 3 (eB2 oMod (eB2 oDiv (eVar 2) (eC (.int 300))) (eC (.int 21))))
    sNil) (a0 :: a1 :: some (.int h) :: some (.int m) :: some (.bl (decide ((h.fdiv 50).fmod 6 = 1))) :: r) = .ok (.nx (a0 :: a1 :: some (.int h) :: some (.int (n : Nat)) :: some (.bl (decide ((h.fdiv 50).fmod 6 = 1))) :: r)) := by
  have d50 : oDiv (.int h) (.int 50) = some (.int (h.fdiv 50)) := oDiv_int (divOk_of (m := 6) (by decide) (by decide) (by decide) (by decide))
  have d300 : oDiv (.int h) (.int 300) = some (.int (h.fdiv 300)) := oDiv_int (divOk_of (m := 9) (by decide) (by decide) (by decide) (by decide))
  by_cases h1 : (h.fdiv 50).fmod 6 = 1
  · have c1 := Int.fmod_nonneg_of_pos m (b := 5) (by decide)
    have c2 := Int.fmod_lt_of_pos m (b := 5) (by decide)
    obtain ⟨n, hn⟩ : ∃ n : Nat, m.fmod 5 = n := ⟨(m.fmod 5).toNat, by omega⟩
    exact ⟨n, by omega, by simp [h1, oMod_int, hn]⟩
  · by_cases h2 : (h.fdiv 50).fmod 6 = 2
    · have c1 := Int.fmod_nonneg_of_pos (h.fdiv 300) (b := 21) (by decide)
      have c2 := Int.fmod_lt_of_pos (h.fdiv 300) (b := 21) (by decide)
      obtain ⟨n, hn⟩ : ∃ n : Nat, (h.fdiv 300).fmod 21 = n := ⟨((h.fdiv 300).fmod 21).toNat, by omega⟩
      exact ⟨n, by omega, by simp [h1, h2, oMod_int, d50, d300, hn]⟩
    · obtain ⟨n, hn⟩ : ∃ n : Nat, m = n := ⟨m.toNat, by omega⟩
      exact ⟨n, by omega, by simp [h1, h2, oMod_int, d50, hn]⟩
theorem step_nx {s t : EvS} {en en' : En} {r : Rs D} (h : s en = .ok (.nx en')) (q : endR (t en') = r) : endR (sSeq s t en) = r := by
  rw [seq_nx h]
  exact q
/-- the drawn roads: T the crossings as they were turned -/
structure Roads (T : List Nat) (Rs : List Rd3) : Prop where
  few : T.length ≤ 20
  nd : T.Nodup
  all : ∀ t, 1 ≤ t → t ≤ T.length → t ∈ T
  rng : ∀ t, t ∈ T → 1 ≤ t ∧ t ≤ T.length
  len : Rs.length = T.length
  ok : ∀ j t, T[j]? = some t → ∃ r, Rs[t - 1]? = some r ∧ okR T j r
theorem lcRep (n : Nat) (enb : En) : evLc (set1 6) (fun _ => .ok true) (eTup (aCons (eC (.int 0)) (aCons (eTup (aCons (eC (.int 0)) (aCons (eC (.int 1)) aNil))) aNil))) enb ((List.range n).map fun k : Nat => D.int k) = .ok ((List.replicate n ((0, 0, 1) : Rd3)).map rd) := by
  rw [List.map_replicate]
  have : ∀ l : List D, evLc (set1 6) (fun _ => .ok true) (eTup (aCons (eC (.int 0)) (aCons (eTup (aCons (eC (.int 0)) (aCons (eC (.int 1)) aNil))) aNil))) enb l = .ok (List.replicate l.length (rd (0, 0, 1))) := fun l => by
    induction l with
    | nil => rfl
    | cons d l ih => simp [evLc, ih, rd, List.replicate_succ]
  rw [this]
  simp
theorem perm_roads {T : List Nat} {n : Nat} (h : T.Perm ((List.range n).map (· + 1))) : T.length = n ∧ T.Nodup ∧ (∀ t, 1 ≤ t → t ≤ n → t ∈ T) ∧ (∀ t, t ∈ T → 1 ≤ t ∧ t ≤ n) := by
  refine ⟨by rw [h.length_eq]; simp, h.nodup_iff.mpr ?_, fun t h1 h2 => h.mem_iff.mpr ?_, fun t ht => ?_⟩
  · unfold List.Nodup
    rw [List.pairwise_map]
    exact List.nodup_range.imp fun h e => h (by omega)
  · rw [List.mem_map]
    exact ⟨t - 1, List.mem_range.mpr (by omega), by omega⟩
  · obtain ⟨a, ha, e⟩ := List.mem_map.mp (h.mem_iff.mp ht)
    have := List.mem_range.mp ha
    omega
theorem rg_tn (n : Nat) : irng 1 n = tn ((List.range n).map (· + 1)) := by
  unfold irng tn
  rw [List.map_map]
  apply List.map_congr_left
  intro a _
  simp
  omega
theorem oRgL_n {n : Nat} (hn : n ≤ 20) : oRgL 1 ((n : Int) + 1) = some (.lst (tn ((List.range n).map (· + 1)))) := by
  have e2 : bd62 ((n : Int) + 1) = true := bd62_nat (m := n + 1) (by omega)
  have e3 : ((n : Int) + 1 - 1).toNat = n := by omega
  have e4 : n ≤ 2 ^ 24 := Nat.le_trans hn (by decide)
  have key : ∀ x : Nat, x = n → (bd62 1 = true ∧ bd62 ((n : Int) + 1) = true ∧ x ≤ 2 ^ 24) := fun x hx => ⟨rfl, e2, hx ▸ e4⟩
  unfold oRgL
  rw [if_pos (key _ e3), e3]
  exact congrArg (fun l => some (D.lst l)) (rg_tn n)
theorem troads_eq (ns : List Int) : ∃ (T : List Nat) (Rs : List Rd3), Roads T Rs ∧ f_troads_by [.scr ns, .int 8] = .ok (.lst (Rs.map rd)) := by
  have c0 : f_cell [.scr ns, .int 0] = .ok (.int (cellAt ns 0)) := cell_eq ns 0
  have c1 : f_cell [.scr ns, .int 1] = .ok (.int (cellAt ns 1)) := cell_eq ns 1
  have c2 : f_cell [.scr ns, .int 2] = .ok (.int (cellAt ns 2)) := cell_eq ns 2
  have c3 : f_cell [.scr ns, .int 3] = .ok (.int (cellAt ns 3)) := cell_eq ns 3
  generalize cellAt ns 0 = h at c0
  have d50 : oDiv (.int h) (.int 50) = some (.int (h.fdiv 50)) := oDiv_int (divOk_of (m := 6) (by decide) (by decide) (by decide) (by decide))
  have p60 : oPow (.int 10) (.int 60) = some (.int 1000000000000000000000000000000000000000000000000000000000000) := rfl
  obtain ⟨n, hn, en⟩ := many_eq h (h.fmod 9) (Int.fmod_nonneg_of_pos h (by decide)) (by have := Int.fmod_lt_of_pos h (b := 9) (by decide); omega) (some (.scr ns)) (some (.int 8)) [none, none, none, none, none, none, none]
  generalize hw : decide ((h.fdiv 50).fmod 6 = 1) = w at en
  obtain ⟨l1, q1, q2, q3⟩ := tnumbers_eq (c := cellAt ns 1) (most := 41) (by decide) (by unfold B; exact Nat.lt_of_lt_of_le (by decide : 41 < 2 ^ 6) (Nat.pow_le_pow_right (by decide) (by decide))) (m := n) (by omega)
  obtain ⟨l2, r1, r2, r3⟩ := tnumbers_eq (c := cellAt ns 2) (most := 1681) (by decide) (by unfold B; exact Nat.lt_of_lt_of_le (by decide : 1681 < 2 ^ 11) (Nat.pow_le_pow_right (by decide) (by decide))) (m := n) (by omega)
  obtain ⟨most, hm0, hmB, hm60, em⟩ : ∃ most : Int, 0 < most ∧ B 2000 most ∧ most ≤ 10 ^ 60 ∧ oIx (.lst [.int 78, .int 1000000000000000000000000000000000000000000000000000000000000]) (.int (if w = true then 1 else 0)) = some (.int most) := by
    cases w with
    | true => exact ⟨1000000000000000000000000000000000000000000000000000000000000, by decide, by unfold B; exact Nat.lt_of_lt_of_le (by decide : _ < 2 ^ 201) (Nat.pow_le_pow_right (by decide) (by decide)), by decide, rfl⟩
    | false => exact ⟨78, by decide, by unfold B; exact Nat.lt_of_lt_of_le (by decide : _ < 2 ^ 7) (Nat.pow_le_pow_right (by decide) (by decide)), by decide, rfl⟩
  obtain ⟨P, s1, s2, s3⟩ := tnumbers_eq (c := cellAt ns 3) (most := most) hm0 hmB (m := n) (by omega)
  have l0 : ((List.range n).map (· + 1)).length = n := by simp
  obtain ⟨T, o6, o7, o8, pT, eT⟩ := swaps (a0 := some (.scr ns)) (a1 := some (.int 8)) (a2 := some (.int h)) (a3 := some (.int n)) (a4 := some (.bl w)) (o9 := none) (o10 := none) (o11 := none) l1 0 ((List.range n).map (· + 1)) none none none (fun x hx => (q2 x hx).1) (by rw [l0]; omega)
  obtain ⟨t1, t2, t3, t4⟩ := perm_roads pT
  obtain ⟨Rs, u6, u7, u11, v1, v2, _, eR⟩ := roads_loop (a0 := some (.scr ns)) (a1 := some (.int 8)) (a2 := some (.int h)) (a3 := some (.int n)) (o8 := o8) (w := w) (T := T) (P := P) (by omega) (by rw [t1]; exact t4) t2 (by omega) (fun x hx => ⟨(s2 x hx).1, by have := (s2 x hx).2; omega⟩) l2 0 (List.replicate n (0, 0, 1)) o6 o7 none (fun x hx => (r2 x hx).1) (by omega) (by simp; omega)
  refine ⟨T, Rs, ⟨by omega, t2, by rw [t1]; exact t3, by rw [t1]; exact t4, v1, fun j t ht => v2 j t (Nat.zero_le _) (by have := (List.getElem?_eq_some_iff.mp ht).1; omega) ht⟩, ?_⟩
  have rg := oRgL_n hn
  unfold f_troads_by
  rw [runF_ap]
  show endR (s_troads_by [some (.scr ns), some (.int 8), none, none, none, none, none, none, none, none, none, none]) = _
  unfold s_troads_by
  refine step_nx (en' := [some (.scr ns), some (.int 8), some (.int h), none, none, none, none, none, none, none, none, none]) (by simp [c0]) ?_
  refine step_nx (en' := [some (.scr ns), some (.int 8), some (.int h), some (.int (h.fmod 9)), none, none, none, none, none, none, none, none]) (by simp [oMod_int]) ?_
  refine step_nx (en' := [some (.scr ns), some (.int 8), some (.int h), some (.int (h.fmod 9)), some (.bl w), none, none, none, none, none, none, none]) (by simp [oMod_int, d50, hw]) ?_
  refine step_nx en ?_
  refine step_nx (en' := [some (.scr ns), some (.int 8), some (.int h), some (.int n), some (.bl w), some (.lst (tn ((List.range n).map (· + 1)))), none, none, none, none, none, none]) (by
    have e3 : eRgL2 (eC (.int 1)) (eB2 oAdd (eVar 3) (eC (.int 1))) [some (.scr ns), some (.int 8), some (.int h), some (.int n), some (.bl w), none, none, none, none, none, none, none] = ofO (oRgL 1 ((n : Int) + 1)) := by
      unfold eRgL2
      rw [eC_ap, bnd_ok, eB2_ap, eVar_s, eVar_s, eVar_s, eVar_0, bnd_ok, eC_ap, bnd_ok, oAdd_int, ofO_some, bnd_ok]
    rw [sAs_ap, e3, rg, ofO_some, bnd_ok]
    rfl) ?_
  refine step_nx (en' := [some (.scr ns), some (.int 8), some (.int h), some (.int n), some (.bl w), some (.lst (tn T)), o6, o7, o8, none, none, none]) (by
    rw [sFor_ap]
    have : iEn (aCons (eCall f_tnumbers (aCons (eCall f_cell (aCons (eVar 0) (aCons (eC (.int 1)) aNil))) (aCons (eVar 3) (aCons (eC (.int 41)) aNil)))) aNil) [some (.scr ns), some (.int 8), some (.int h), some (.int n), some (.bl w), some (.lst (tn ((List.range n).map (· + 1)))), none, none, none, none, none, none] = .ok (enumD 0 (l1.map .int)) := by
      unfold iEn
      rw [aCons_ap, eCall_ap, aCons_ap, eCall_ap, aCons_ap, eVar_0, bnd_ok, aCons_ap, eC_ap, bnd_ok, aNil_ap, bnd_ok, bnd_ok, bnd_ok, c1, bnd_ok, aCons_ap, eVar_s, eVar_s, eVar_s, eVar_0, bnd_ok, aCons_ap, eC_ap, bnd_ok, aNil_ap, bnd_ok, bnd_ok, bnd_ok, bnd_ok, q3, bnd_ok, bnd_ok, bnd_ok]
      rfl
    rw [this, bnd_ok]
    exact eT) ?_
  have on := oRng_nat (m := n) (by omega)
  refine step_nx (en' := [some (.scr ns), some (.int 8), some (.int h), some (.int n), some (.bl w), some (.lst (tn T)), o6, o7, o8, some (.lst ((List.replicate n ((0, 0, 1) : Rd3)).map rd)), none, none]) (by
    rw [sAs_ap]
    unfold eLc
    rw [iRn_ap, aCons_ap, eVar_s, eVar_s, eVar_s, eVar_0, bnd_ok, aNil_ap, bnd_ok, bnd_ok, on, ofO_some, bnd_ok, lcRep]
    have : ((List.replicate n ((0, 0, 1) : Rd3)).map rd).length ≤ sizeLine := by rw [List.length_map, List.length_replicate, sizeLine_eq]; omega
    show bnd (bnd (.ok ((List.replicate n ((0, 0, 1) : Rd3)).map rd)) _) _ = _
    rw [bnd_ok, if_pos this, bnd_ok]
    rfl) ?_
  refine step_nx (en' := [some (.scr ns), some (.int 8), some (.int h), some (.int n), some (.bl w), some (.lst (tn T)), o6, o7, o8, some (.lst ((List.replicate n ((0, 0, 1) : Rd3)).map rd)), some (.lst (P.map .int)), none]) (by
    have ei : eB2 oIx (eLst (aCons (eC (.int 78)) (aCons (eB2 oPow (eC (.int 10)) (eC (.int 60))) aNil))) (eBi oInt (aCons (eVar 4) aNil)) [some (.scr ns), some (.int 8), some (.int h), some (.int n), some (.bl w), some (.lst (tn T)), o6, o7, o8, some (.lst ((List.replicate n ((0, 0, 1) : Rd3)).map rd)), none, none] = .ok (.int most) := by
      rw [eB2_ap, eLst_ap, aCons_ap, eC_ap, bnd_ok, aCons_ap, eB2_ap, eC_ap, bnd_ok, eC_ap, bnd_ok, p60, ofO_some, bnd_ok, aNil_ap, bnd_ok, bnd_ok, bnd_ok, bnd_ok, eBi_ap, aCons_ap, eVar_s, eVar_s, eVar_s, eVar_s, eVar_0, bnd_ok, aNil_ap, bnd_ok, bnd_ok, oInt_bl, ofO_some, bnd_ok, em, ofO_some]
    rw [sAs_ap, eCall_ap, aCons_ap, eCall_ap, aCons_ap, eVar_0, bnd_ok, aCons_ap, eC_ap, bnd_ok, aNil_ap, bnd_ok, bnd_ok, bnd_ok, c3, bnd_ok, aCons_ap, eVar_s, eVar_s, eVar_s, eVar_0, bnd_ok, aCons_ap, ei, bnd_ok, aNil_ap, bnd_ok, bnd_ok, bnd_ok, bnd_ok, s3, bnd_ok]
    rfl) ?_
  refine step_nx (en' := [some (.scr ns), some (.int 8), some (.int h), some (.int n), some (.bl w), some (.lst (tn T)), u6, u7, o8, some (.lst (Rs.map rd)), some (.lst (P.map .int)), u11]) (by
    rw [sFor_ap]
    have : iEn (aCons (eCall f_tnumbers (aCons (eCall f_cell (aCons (eVar 0) (aCons (eC (.int 2)) aNil))) (aCons (eVar 3) (aCons (eC (.int 1681)) aNil)))) aNil) [some (.scr ns), some (.int 8), some (.int h), some (.int n), some (.bl w), some (.lst (tn T)), o6, o7, o8, some (.lst ((List.replicate n ((0, 0, 1) : Rd3)).map rd)), some (.lst (P.map .int)), none] = .ok (enumD 0 (l2.map .int)) := by
      unfold iEn
      rw [aCons_ap, eCall_ap, aCons_ap, eCall_ap, aCons_ap, eVar_0, bnd_ok, aCons_ap, eC_ap, bnd_ok, aNil_ap, bnd_ok, bnd_ok, bnd_ok, c2, bnd_ok, aCons_ap, eVar_s, eVar_s, eVar_s, eVar_0, bnd_ok, aCons_ap, eC_ap, bnd_ok, aNil_ap, bnd_ok, bnd_ok, bnd_ok, bnd_ok, r3, bnd_ok, bnd_ok, bnd_ok]
      rfl
    rw [this, bnd_ok]
    exact eR) ?_
  rfl
end Co
end
noncomputable section
namespace Co
open PySem PySem.Spec PyProof.Rows L2 Pi
/-! ### the way to the market -/
inductive Way (Rs : List Rd3) : Nat → List Nat → Prop
  | z : Way Rs 0 []
  | s {k : Nat} {l : List Nat} {r : Rd3} : 1 ≤ k → Rs[k - 1]? = some r → Way Rs r.1 l → Way Rs k (k :: l)
/-- the way with fuel -/
def wyF (Rs : List Rd3) : Nat → Nat → List Nat
  | 0, _ => []
  | f + 1, k => if k = 0 then [] else match Rs[k - 1]? with
    | some r => k :: wyF Rs f r.1
    | none => []
def wy (Rs : List Rd3) (k : Nat) : List Nat := wyF Rs Rs.length k
theorem Way.eq {Rs : List Rd3} {k : Nat} {l : List Nat} (h : Way Rs k l) : ∀ f, l.length ≤ f → wyF Rs f k = l := by
  induction h with
  | z => intro f _; cases f <;> simp [wyF]
  | @s k l r h1 h2 _ ih =>
    intro f hf
    cases f with
    | zero => simp at hf
    | succ f => simp only [wyF, h2]; rw [if_neg (by omega), ih f (by simpa using hf)]
theorem Way.rng {Rs : List Rd3} {k : Nat} {l : List Nat} (h : Way Rs k l) : ∀ x, x ∈ l → 1 ≤ x ∧ x ≤ Rs.length := by
  induction h with
  | z => intro x hx; cases hx
  | @s k l r h1 h2 _ ih =>
    intro x hx
    rcases List.mem_cons.mp hx with e | hx
    · have := (List.getElem?_eq_some_iff.mp h2).1
      omega
    · exact ih x hx
/-- a tree's roads -/
structure Tre (Rs : List Rd3) : Prop where
  few : Rs.length ≤ 40
  prc : ∀ r, r ∈ Rs → Prc r.2.1 r.2.2
  to : ∀ r, r ∈ Rs → r.1 ≤ Rs.length
  way : ∀ k, k ≤ Rs.length → ∃ l, Way Rs k l ∧ l.length ≤ Rs.length
theorem Roads.rank {T : List Nat} {Rs : List Rd3} (h : Roads T Rs) : ∀ (n j t : Nat), j < n → T[j]? = some t → ∃ l, Way Rs t l ∧ l.length ≤ j + 1
  | n + 1, j, t, hj, ht => by
    obtain ⟨r, h1, h2, _⟩ := h.ok j t ht
    have t1 := (h.rng t (List.mem_of_getElem? ht)).1
    rcases h2 with e | ⟨i, hi, hT⟩
    · exact ⟨[t], .s t1 h1 (by rw [e]; exact .z), by simp⟩
    · obtain ⟨l, q1, q2⟩ := h.rank n i r.1 (by omega) hT
      exact ⟨t :: l, .s t1 h1 q1, by simp; omega⟩
theorem Roads.at {T : List Nat} {Rs : List Rd3} (h : Roads T Rs) {r : Rd3} (hr : r ∈ Rs) : ∃ j t, T[j]? = some t ∧ okR T j r := by
  obtain ⟨m, hm⟩ := List.mem_iff_getElem?.mp hr
  have hl := (List.getElem?_eq_some_iff.mp hm).1
  have hmem := h.all (m + 1) (by omega) (by have := h.len; omega)
  obtain ⟨j, hj⟩ := List.mem_iff_getElem?.mp hmem
  obtain ⟨r', h1, h2⟩ := h.ok j _ hj
  rw [Nat.add_sub_cancel, hm] at h1
  exact ⟨j, _, hj, by rw [Option.some.inj h1]; exact h2⟩
theorem Roads.tre {T : List Nat} {Rs : List Rd3} (h : Roads T Rs) : Tre Rs where
  few := by have := h.few; have := h.len; omega
  prc r hr := by
    obtain ⟨j, t, _, h2⟩ := h.at hr
    exact h2.2
  to r hr := by
    obtain ⟨j, t, _, h2⟩ := h.at hr
    rcases h2.1 with e | ⟨i, _, hi⟩
    · omega
    · rw [h.len]; exact (h.rng _ (List.mem_of_getElem? hi)).2
  way k hk := by
    cases k with
    | zero => exact ⟨[], .z, by simp⟩
    | succ k =>
      obtain ⟨j, hj⟩ := List.mem_iff_getElem?.mp (h.all (k + 1) (by omega) (by have := h.len; omega))
      obtain ⟨l, q1, q2⟩ := h.rank (j + 1) j _ (Nat.lt_succ_self j) hj
      have := (List.getElem?_eq_some_iff.mp hj).1
      exact ⟨l, q1, by have := h.len; omega⟩
theorem Tre.wy {Rs : List Rd3} (h : Tre Rs) {k : Nat} (hk : k ≤ Rs.length) : Way Rs k (wy Rs k) ∧ (wy Rs k).length ≤ Rs.length := by
  obtain ⟨l, q1, q2⟩ := h.way k hk
  have : Co.wy Rs k = l := q1.eq _ q2
  rw [this]
  exact ⟨q1, q2⟩
/-! ### the program's tree -/
theorem rd_0 (r : Rd3) : oIx (rd r) (.int 0) = some (.int (r.1 : Nat)) := rfl
theorem rd_1 (r : Rd3) : oIx (rd r) (.int 1) = some (.tup [.int r.2.1, .int r.2.2]) := rfl
theorem rds_at {Rs : List Rd3} {k : Nat} {r : Rd3} (h1 : 1 ≤ k) (h : Rs[k - 1]? = some r) : oIx (.lst (Rs.map rd)) (.int ((k : Int) - 1)) = some (rd r) := by
  have e : (k : Int) - 1 = ((k - 1 : Nat) : Int) := by omega
  obtain ⟨hl, he⟩ := List.getElem?_eq_some_iff.mp h
  rw [e, oIx_lst (by simpa using hl)]
  simp [he]
def s_wayf : EvS := (sSeq (sAs 2 (eLst aNil))
  (sSeq (sWh (tV (eB2 oNe (eVar 1) (eC (.int 0))))
    (sSeq (sIf (tV (eB2 oEq (eBi oLen (aCons (eVar 2) aNil)) (eBi oLen (aCons (eVar 0) aNil))))
    (sRet (eC .non))
    sNil)
  (sSeq (sApp 2 (eFl (eVar 1)))
  (sAs 1 (eFl (eB2 oIx (eB2 oIx (eVar 0) (eB2 oSub (eVar 1) (eC (.int 1)))) (eC (.int 0))))))))
  (sRet (eVar 2))))
def f_wayf : List D → Rs D := runF 1 s_wayf
theorem wayf_loop {Rs : List Rd3} (few : Rs.length ≤ 40) {k : Nat} {l : List Nat} (h : Way Rs k l) : ∀ acc : List Nat, acc.length + l.length ≤ Rs.length →
    sWh (tV (eB2 oNe (eVar 1) (eC (.int 0))))
    (sSeq (sIf (tV (eB2 oEq (eBi oLen (aCons (eVar 2) aNil)) (eBi oLen (aCons (eVar 0) aNil))))
    (sRet (eC .non))
    sNil)
  (sSeq (sApp 2 (eFl (eVar 1)))
  (sAs 1 (eFl (eB2 oIx (eB2 oIx (eVar 0) (eB2 oSub (eVar 1) (eC (.int 1)))) (eC (.int 0))))))) [some (.lst (Rs.map rd)), some (.int k), some (.lst (tn acc))] = .ok (.nx [some (.lst (Rs.map rd)), some (.int 0), some (.lst (tn (acc ++ l)))]) := by
  induction h with
  | z =>
    intro acc _
    rw [sWh_eq]
    simp
  | @s k l r h1 h2 _ ih =>
    intro acc hacc
    simp only [List.length_cons] at hacc
    have e1 : ¬ (k = 0) := by omega
    have e2 : ¬ ((acc.length : Int) = (Rs.length : Int)) := by omega
    have sz : acc.length < sizeLine := by rw [sizeLine_eq]; omega
    have ap : tn acc ++ [.int k] = tn (acc ++ [k]) := by simp [tn]
    have ih' := ih (acc ++ [k]) (by simp; omega)
    rw [List.append_assoc] at ih'
    have h1' := rds_at h1 h2
    rw [sWh_eq]
    generalize hRD : Rs.map rd = RD at *
    have hlen : RD.length = Rs.length := by rw [← hRD]; simp
    simp [e1, e2, tn_len, hlen, sz, ap, h1', rd_0, ih']
theorem wayf_eq {Rs : List Rd3} (few : Rs.length ≤ 40) {k : Nat} {l : List Nat} (h : Way Rs k l) (hl : l.length ≤ Rs.length) : f_wayf [.lst (Rs.map rd), .int k] = .ok (.lst (tn l)) := by
  have e := wayf_loop few h [] (by simpa using hl)
  generalize Rs.map rd = RD at *
  unfold f_wayf
  rw [runF_ap]
  show endR (s_wayf [some (.lst RD), some (.int k), none]) = _
  unfold s_wayf
  refine step_nx (en' := [some (.lst RD), some (.int k), some (.lst [])]) rfl ?_
  refine step_nx e ?_
  rfl
/-! the law's own way -/
def s_lway : EvS := (sSeq (sAs 2 (eLst aNil))
  (sSeq (sWh (tV (eB2 oNe (eVar 1) (eC (.int 0))))
    (sSeq (sApp 2 (eFl (eVar 1)))
  (sAs 1 (eFl (eB2 oIx (eB2 oIx (eVar 0) (eB2 oSub (eVar 1) (eC (.int 1)))) (eC (.int 0)))))))
  (sRet (eVar 2))))
def f_lway : List D → Rs D := runF 1 s_lway
theorem lway_loop {Rs : List Rd3} (few : Rs.length ≤ 40) {k : Nat} {l : List Nat} (h : Way Rs k l) : ∀ acc : List Nat, acc.length + l.length ≤ Rs.length →
    sWh (tV (eB2 oNe (eVar 1) (eC (.int 0))))
    (sSeq (sApp 2 (eFl (eVar 1)))
  (sAs 1 (eFl (eB2 oIx (eB2 oIx (eVar 0) (eB2 oSub (eVar 1) (eC (.int 1)))) (eC (.int 0)))))) [some (.lst (Rs.map rd)), some (.int k), some (.lst (tn acc))] = .ok (.nx [some (.lst (Rs.map rd)), some (.int 0), some (.lst (tn (acc ++ l)))]) := by
  induction h with
  | z =>
    intro acc _
    rw [sWh_eq]
    simp
  | @s k l r h1 h2 _ ih =>
    intro acc hacc
    simp only [List.length_cons] at hacc
    have e1 : ¬ (k = 0) := by omega
    have sz : acc.length < sizeLine := by rw [sizeLine_eq]; omega
    have ap : tn acc ++ [.int k] = tn (acc ++ [k]) := by simp [tn]
    have ih' := ih (acc ++ [k]) (by simp; omega)
    rw [List.append_assoc] at ih'
    have h1' := rds_at h1 h2
    rw [sWh_eq]
    generalize hRD : Rs.map rd = RD at *
    simp [e1, tn_len, sz, ap, h1', rd_0, ih']
theorem lway_eq {Rs : List Rd3} (few : Rs.length ≤ 40) {k : Nat} {l : List Nat} (h : Way Rs k l) (hl : l.length ≤ Rs.length) : f_lway [.lst (Rs.map rd), .int k] = .ok (.lst (tn l)) := by
  have e := lway_loop few h [] (by simpa using hl)
  generalize Rs.map rd = RD at *
  unfold f_lway
  rw [runF_ap]
  show endR (s_lway [some (.lst RD), some (.int k), none]) = _
  unfold s_lway
  refine step_nx (en' := [some (.lst RD), some (.int k), some (.lst [])]) rfl ?_
  refine step_nx e ?_
  rfl
/-! ### what a road is -/
def s_isr : EvS := (sSeq (sIf (tO (tNt (tV (eIsi .tuple (eVar 0)))) (tV (eB2 oNe (eBi oLen (aCons (eVar 0) aNil)) (eC (.int 2)))))
    (sRet (eC (.bl false)))
    sNil)
  (sSeq (sIf (tO (tNt (tV (eCall f_whole (aCons (eB2 oIx (eVar 0) (eC (.int 0))) aNil)))) (tO (tNt (tV (eCall f_whole (aCons (eB2 oIx (eVar 0) (eC (.int 1))) aNil)))) (tV (eB2 oLt (eB2 oIx (eVar 0) (eC (.int 1))) (eC (.int 1))))))
    (sRet (eC (.bl false)))
    sNil)
  (sRet (eB2 oEq (eCall f_div (aCons (eB2 oIx (eVar 0) (eC (.int 0))) (aCons (eB2 oIx (eVar 0) (eC (.int 1))) aNil))) (eC (.int 1))))))
def f_isr : List D → Rs D := runF 0 s_isr
theorem isr_eq (p q : Int) : f_isr [.tup [.int p, .int q]] = .ok (.bl (decide (0 < q ∧ Int.gcd p q = 1))) := by
  by_cases h : q < 1
  · have h' : ¬ 0 < q := by omega
    simp [f_isr, s_isr, isiB, whole_int, h, h']
  · have h' : 0 < q := by omega
    have e : ((Int.gcd p q : Nat) : Int) = 1 ↔ Int.gcd p q = 1 := by omega
    simp [f_isr, s_isr, isiB, whole_int, h, h', div_eq, e]
def s_isrd : EvS := (sSeq (sIf (tO (tNt (tV (eIsi .tuple (eVar 0)))) (tV (eB2 oNe (eBi oLen (aCons (eVar 0) aNil)) (eC (.int 2)))))
    (sRet (eC (.bl false)))
    sNil)
  (sSeq (sIf (tO (tNt (tV (eCall f_whole (aCons (eB2 oIx (eVar 0) (eC (.int 0))) aNil)))) (tO (tV (eB2 oLt (eB2 oIx (eVar 0) (eC (.int 0))) (eC (.int 0)))) (tV (eB2 oGt (eB2 oIx (eVar 0) (eC (.int 0))) (eVar 1)))))
    (sRet (eC (.bl false)))
    sNil)
  (sRet (eAn (eCall f_isr (aCons (eB2 oIx (eVar 0) (eC (.int 1))) aNil)) (eB2 oGe (eB2 oIx (eB2 oIx (eVar 0) (eC (.int 1))) (eC (.int 0))) (eC (.int 0)))))))
def f_isrd : List D → Rs D := runF 0 s_isrd
theorem isrd_eq {r : Rd3} {n : Nat} (h : r.1 ≤ n) (p : Prc r.2.1 r.2.2) : f_isrd [rd r, .int n] = .ok (.bl true) := by
  have h1 : ¬ ((r.1 : Int) < 0) := by omega
  have h2 : ¬ ((n : Int) < (r.1 : Int)) := by omega
  have h3 := p.q1
  have h4 := p.cop
  have h5 := p.p0
  simp [f_isrd, s_isrd, isiB, rd, whole_int, h1, h2, isr_eq, h3, h4, h5]
/-! ### a tree made -/
def s_tinit (e c : Nat) : EvS := (sSeq (sIf (tO (tNt (tV (eIsi .list (eVar 1)))) (tV (eB2 oGt (eBi oLen (aCons (eVar 1) aNil)) (eC (.int 40)))))
    (sRai e)
    sNil)
  (sSeq (sFor (iL (eVar 1)) (set1 2)
    (sIf (tNt (tV (eCall f_isrd (aCons (eVar 2) (aCons (eBi oLen (aCons (eVar 1) aNil)) aNil)))))
    (sRai e)
    sNil))
  (sSeq (sFor (iRn (aCons (eC (.int 1)) (aCons (eB2 oAdd (eBi oLen (aCons (eVar 1) aNil)) (eC (.int 1))) aNil))) (set1 3)
    (sIf (tV (eB2 (oIs false) (eCall f_wayf (aCons (eVar 1) (aCons (eVar 3) aNil))) (eC .non)))
    (sRai e)
    sNil))
  (sSetf 0 c 0 (eBi oList (aCons (eVar 1) aNil))))))
def f_tinit (e c : Nat) : List D → Rs D := runI c 2 (s_tinit e c)
/-- a tree -/
def tree (c : Nat) (Rs : List Rd3) : D := .obj c [.lst (Rs.map rd)]
theorem step_nxI {s t : EvS} {en en' : En} {r : Rs D} (h : s en = .ok (.nx en')) (q : endI (t en') = r) : endI (sSeq s t en) = r := by
  rw [seq_nx h]
  exact q
theorem tinit_l1 {e : Nat} {a0 a3 : Option D} {RD : List D} {n : Nat} (hn : RD.length = n) : ∀ (l : List Rd3) (o : Option D), (∀ r, r ∈ l → r.1 ≤ n ∧ Prc r.2.1 r.2.2) →
    ∃ o', evFor (set1 2) (sIf (tNt (tV (eCall f_isrd (aCons (eVar 2) (aCons (eBi oLen (aCons (eVar 1) aNil)) aNil)))))
    (sRai e)
    sNil) (l.map rd) [a0, some (.lst RD), o, a3] = .ok (.nx [a0, some (.lst RD), o', a3])
  | [], o, _ => ⟨o, rfl⟩
  | r :: l, o, h => by
    obtain ⟨o', q⟩ := tinit_l1 (e := e) (a0 := a0) (a3 := a3) hn l (some (rd r)) (fun x hx => h x (List.mem_cons_of_mem _ hx))
    obtain ⟨h1, h2⟩ := h r List.mem_cons_self
    refine ⟨o', ?_⟩
    rw [← q]
    simp [evFor, hn, isrd_eq h1 h2]
theorem tn_ne (l : List Nat) : oIs false (.lst (tn l)) .non = some (.bl false) := rfl
theorem tinit_l2 {e : Nat} {a0 a2 : Option D} {Rs : List Rd3} (h : Tre Rs) : ∀ (l : List Nat) (o : Option D), (∀ k, k ∈ l → k ≤ Rs.length) →
    ∃ o', evFor (set1 3) (sIf (tV (eB2 (oIs false) (eCall f_wayf (aCons (eVar 1) (aCons (eVar 3) aNil))) (eC .non)))
    (sRai e)
    sNil) (tn l) [a0, some (.lst (Rs.map rd)), a2, o] = .ok (.nx [a0, some (.lst (Rs.map rd)), a2, o'])
  | [], o, _ => ⟨o, rfl⟩
  | k :: l, o, hl => by
    obtain ⟨o', q⟩ := tinit_l2 (e := e) (a0 := a0) (a2 := a2) h l (some (.int k)) (fun x hx => hl x (List.mem_cons_of_mem _ hx))
    obtain ⟨h1, h2⟩ := h.wy (hl k List.mem_cons_self)
    have w := wayf_eq h.few h1 h2
    refine ⟨o', ?_⟩
    rw [← q]
    show bnd (sIf _ _ _ [a0, some (.lst (Rs.map rd)), a2, some (.int k)]) _ = _
    generalize Rs.map rd = RD at *
    simp [w, tn_ne]
    rfl
theorem oRng_12 {n : Nat} (h : n < 100000) : oRng [.int 1, .int ((n : Int) + 1)] = some (tn ((List.range n).map (· + 1))) := by
  have e2 : bd62 ((n : Int) + 1) = true := bd62_nat (m := n + 1) (by omega)
  have e3 : ((n : Int) + 1 - 1).toNat = n := by omega
  show (if bd62 1 = true ∧ bd62 ((n : Int) + 1) = true then some (irng 1 ((n : Int) + 1 - 1).toNat) else none) = _
  rw [if_pos ⟨rfl, e2⟩, e3, rg_tn]
theorem tinit_eq {e c : Nat} {Rs : List Rd3} (h : Tre Rs) : f_tinit e c [.lst (Rs.map rd)] = .ok (tree c Rs) := by
  have hl : (Rs.map rd).length = Rs.length := by simp
  have few := h.few
  have g : ¬ ((40 : Int) < ((Rs.length : Nat) : Int)) := by omega
  obtain ⟨o2, q2⟩ := tinit_l1 (e := e) (a0 := some (.obj c [])) (a3 := none) hl Rs none (fun r hr => ⟨h.to r hr, h.prc r hr⟩)
  obtain ⟨o3, q3⟩ := tinit_l2 (e := e) (a0 := some (.obj c [])) (a2 := o2) h ((List.range Rs.length).map (· + 1)) none (fun k hk => by
    obtain ⟨a, ha, e⟩ := List.mem_map.mp hk
    have := List.mem_range.mp ha
    omega)
  have rg := oRng_12 (n := Rs.length) (by omega)
  unfold f_tinit runI tree
  show endI (s_tinit e c [some (.obj c []), some (.lst (Rs.map rd)), none, none]) = _
  unfold s_tinit
  refine step_nxI (en' := [some (.obj c []), some (.lst (Rs.map rd)), none, none]) (by simp [isiB, g]) ?_
  refine step_nxI (en' := [some (.obj c []), some (.lst (Rs.map rd)), o2, none]) (by
    rw [sFor_ap, iL_ap, eVar_s, eVar_0, bnd_ok, itemsL_lst, ofO_some, bnd_ok]
    exact q2) ?_
  refine step_nxI (en' := [some (.obj c []), some (.lst (Rs.map rd)), o2, o3]) (by
    rw [sFor_ap, iRn_ap, aCons_ap, eC_ap, bnd_ok, aCons_ap, eB2_ap, eBi_ap, aCons_ap, eVar_s, eVar_0, bnd_ok, aNil_ap, bnd_ok, bnd_ok, oLen_lst, hl, ofO_some, bnd_ok, eC_ap, bnd_ok, oAdd_int, ofO_some, bnd_ok, bnd_ok, bnd_ok, bnd_ok, rg, ofO_some, bnd_ok]
    exact q3) ?_
  simp [sSetf, setD, oList, endI, endO]
/-! ### its ways -/
def s_tway (e c : Nat) : EvS := (sSeq (sIf (tO (tV (eB2 oLt (eVar 1) (eC (.int 0)))) (tV (eB2 oGt (eVar 1) (eBi oLen (aCons (eFld c 0 (eVar 0)) aNil)))))
    (sRai e)
    sNil)
  (sRet (eCall f_wayf (aCons (eFld c 0 (eVar 0)) (aCons (eVar 1) aNil)))))
def f_tway (e c : Nat) : List D → Rs D := runF 0 (s_tway e c)
@[simp] theorem eFld_ap (c j : Nat) (a : EvE) (en : En) : eFld c j a en = bnd (a en) fun d => match d with
  | .obj c' l => if c' = c then ofO l[j]? else .error .stuck
  | _ => .error .stuck := rfl
theorem tway_eq {e c : Nat} {Rs : List Rd3} (h : Tre Rs) {k : Nat} (hk : k ≤ Rs.length) : f_tway e c [tree c Rs, .int k] = .ok (.lst (tn (wy Rs k))) := by
  obtain ⟨h1, h2⟩ := h.wy hk
  have w := wayf_eq h.few h1 h2
  have hl : (Rs.map rd).length = Rs.length := by simp
  have g1 : ¬ ((k : Int) < 0) := by omega
  have g2 : ¬ (((Rs.length : Nat) : Int) < (k : Int)) := by omega
  unfold tree
  generalize Rs.map rd = RD at *
  simp [f_tway, s_tway, g1, g2, hl, w]
theorem tway_no {e c : Nat} {Rs : List Rd3} {k : Int} (hk : k < 0 ∨ (Rs.length : Int) < k) : f_tway e c [tree c Rs, .int k] = .error (.raise e) := by
  have hl : (Rs.map rd).length = Rs.length := by simp
  unfold tree
  generalize Rs.map rd = RD at *
  rcases hk with hk | hk
  · simp [f_tway, s_tway, hk]
  · by_cases z : k < 0
    · simp [f_tway, s_tway, z]
    · simp [f_tway, s_tway, hk, z, hl]
def s_troad (c : Nat) : EvS := (sRet (eFi (eBi oList (aCons (eFld c 0 (eVar 0)) aNil))))
def f_troad (c : Nat) : List D → Rs D := runF 0 (s_troad c)
theorem flat_rds (Rs : List Rd3) : flat.flatL (Rs.map rd) = true := by
  induction Rs with
  | nil => rfl
  | cons r Rs ih => simp [ih, rd]
/-! ### lists of whole numbers held against one another -/
def s_wholes : EvS := (sSeq (sIf (tO (tNt (tV (eIsi .list (eVar 0)))) (tV (eB2 oNe (eBi oLen (aCons (eVar 0) aNil)) (eBi oLen (aCons (eVar 1) aNil)))))
    (sRet (eC (.bl false)))
    sNil)
  (sSeq (sFor (iRn (aCons (eBi oLen (aCons (eVar 1) aNil)) aNil)) (set1 2)
    (sIf (tO (tNt (tV (eCall f_whole (aCons (eB2 oIx (eVar 0) (eVar 2)) aNil)))) (tV (eB2 oNe (eB2 oIx (eVar 0) (eVar 2)) (eB2 oIx (eVar 1) (eVar 2)))))
    (sRet (eC (.bl false)))
    sNil))
  (sRet (eC (.bl true)))))
def f_wholes : List D → Rs D := runF 1 s_wholes
theorem wholes_loop {T : List Nat} : ∀ (l : List Nat) (o : Option D), (∀ k, k ∈ l → k < T.length) →
    ∃ o', evFor (set1 2) (sIf (tO (tNt (tV (eCall f_whole (aCons (eB2 oIx (eVar 0) (eVar 2)) aNil)))) (tV (eB2 oNe (eB2 oIx (eVar 0) (eVar 2)) (eB2 oIx (eVar 1) (eVar 2)))))
    (sRet (eC (.bl false)))
    sNil) (tn l) [some (.lst (tn T)), some (.lst (tn T)), o] = .ok (.nx [some (.lst (tn T)), some (.lst (tn T)), o'])
  | [], o, _ => ⟨o, rfl⟩
  | k :: l, o, h => by
    obtain ⟨o', q⟩ := wholes_loop (T := T) l (some (.int k)) (fun x hx => h x (List.mem_cons_of_mem _ hx))
    have hk := h k List.mem_cons_self
    refine ⟨o', ?_⟩
    rw [← q]
    show bnd (sIf _ _ _ [some (.lst (tn T)), some (.lst (tn T)), some (.int k)]) _ = _
    have ht := tn_at hk
    generalize tn T = X at *
    simp [ht, whole_int]
    rfl
theorem tn_range (n : Nat) : tn (List.range n) = (List.range n).map fun k : Nat => D.int k := rfl
theorem wholes_eq {T : List Nat} (h : T.length < 1000000) : f_wholes [.lst (tn T), .lst (tn T)] = .ok (.bl true) := by
  obtain ⟨o', q⟩ := wholes_loop (T := T) (List.range T.length) none (fun k hk => List.mem_range.mp hk)
  have rg := oRng_nat h
  rw [← tn_range] at rg
  have hl := tn_len T
  generalize tn (List.range T.length) = Y at *
  generalize tn T = X at *
  unfold f_wholes
  rw [runF_ap]
  show endR (s_wholes [some (.lst X), some (.lst X), none]) = _
  unfold s_wholes
  refine step_nx (en' := [some (.lst X), some (.lst X), none]) (by simp [isiB]) ?_
  refine step_nx (en' := [some (.lst X), some (.lst X), o']) (by
    rw [sFor_ap, iRn_ap, aCons_ap, eBi_ap, aCons_ap, eVar_s, eVar_0, bnd_ok, aNil_ap, bnd_ok, bnd_ok, oLen_lst, hl, ofO_some, bnd_ok, bnd_ok, bnd_ok, rg, ofO_some, bnd_ok]
    exact q) ?_
  rfl
/-! ### equality -/
mutual
theorem eqv_self : ∀ d : D, PyData.eqv (toP d) (toP d) = true
  | .non => by simp [toP, PyData.eqv]
  | .bl b => by simp [toP, PyData.eqv]
  | .int i => by simp [toP, PyData.eqv]
  | .str x => by simp [toP, PyData.eqv]
  | .tup l => by rw [toP, PyData.eqv]; exact eqvAll_self l
  | .lst l => by rw [toP, PyData.eqv]; exact eqvAll_self l
  | .dct _ _ => by simp [toP, PyData.eqv]
  | .obj _ _ => by simp [toP, PyData.eqv]
  | .exc _ => by simp [toP, PyData.eqv]
  | .scr _ => by simp [toP, PyData.eqv]
theorem eqvAll_self : ∀ l : List D, PyData.eqvAll (toPL l) (toPL l) = true
  | [] => by simp [toPL, PyData.eqvAll]
  | d :: l => by rw [toPL, PyData.eqvAll, eqv_self d, eqvAll_self l]; rfl
end
theorem oEq_self {d : D} (h : pl d 60 = true) : oEq d d = some (.bl true) := by
  unfold oEq
  rw [if_pos ⟨h, h⟩, eqv_self]
theorem pl_rds (Rs : List Rd3) : pl (.lst (Rs.map rd)) 60 = true := by
  rw [pl]
  induction Rs with
  | nil => rfl
  | cons r Rs ih => rw [List.map_cons, plL, ih]; rfl
theorem oEq_rds (Rs : List Rd3) : oEq (.lst (Rs.map rd)) (.lst (Rs.map rd)) = some (.bl true) := oEq_self (pl_rds Rs)
@[simp] theorem eMeth_ap (c : Nat) (fn : List D → Rs D) (o : EvE) (a : En → Rs (List D)) (en : En) : eMeth c fn o a en = bnd (o en) fun d => match d with
  | .obj c' l => if c' = c then bnd (a en) fun ds => fn (.obj c' l :: ds) else .error .stuck
  | _ => .error .stuck := rfl
theorem eRgL1_n {n : Nat} (hn : n ≤ 1000) : oRgL 0 ((n : Int) + 1) = some (.lst (tn (List.range (n + 1)))) := by
  have e2 : bd62 ((n : Int) + 1) = true := bd62_nat (m := n + 1) (by omega)
  have e3 : ((n : Int) + 1 - 0).toNat = n + 1 := by omega
  have e4 : n + 1 ≤ 2 ^ 24 := Nat.le_trans (by omega : n + 1 ≤ 1001) (by decide)
  have key : ∀ x : Nat, x = n + 1 → (bd62 0 = true ∧ bd62 ((n : Int) + 1) = true ∧ x ≤ 2 ^ 24) := fun x hx => ⟨rfl, e2, hx ▸ e4⟩
  unfold oRgL
  rw [if_pos (key _ e3), e3, irng_nat]
  rfl
theorem oAdd_tn {a b : List Nat} (h : a.length + b.length < 1000000) : oAdd (.lst (tn a)) (.lst (tn b)) = some (.lst (tn (a ++ b))) := by
  have e : (tn a).length + (tn b).length ≤ sizeLine := by rw [tn_len, tn_len, sizeLine_eq]; omega
  have e2 : tn (a ++ b) = tn a ++ tn b := by simp [tn]
  rw [e2]
  generalize tn a = x at *
  generalize tn b = y at *
  simp [oAdd, e]
theorem eRgL1_of {a : EvE} {en : En} {j : Int} {d : D} (h : a en = .ok (.int j)) (rg : oRgL 0 j = some d) : eRgL1 a en = .ok d := by
  unfold eRgL1
  rw [h, bnd_ok]
  show ofO (oRgL 0 j) = _
  rw [rg]
  rfl
theorem eRgL2_of {a b : EvE} {en : En} {i j : Int} {d : D} (h : a en = .ok (.int i)) (h' : b en = .ok (.int j)) (rg : oRgL i j = some d) : eRgL2 a b en = .ok d := by
  unfold eRgL2
  rw [h, bnd_ok, h', bnd_ok]
  show ofO (oRgL i j) = _
  rw [rg]
  rfl
end Co
end
noncomputable section
namespace Co
open PySem PySem.Spec PyProof.Rows L2 Pi
/-! ### comprehensions over whole numbers -/
theorem evLc_tn {set : En → D → Option En} {t : En → Rs Bool} {e : EvE} {enb : En} {p : Nat → Bool} : ∀ l : List Nat, (∀ k, k ∈ l → ∃ en1, set enb (.int k) = some en1 ∧ t en1 = .ok (p k) ∧ (p k = true → e en1 = .ok (.int k))) →
    evLc set t e enb (tn l) = .ok (tn (l.filter p))
  | [], _ => rfl
  | k :: l, h => by
    obtain ⟨en1, h1, h2, h3⟩ := h k List.mem_cons_self
    have ih := evLc_tn l fun x hx => h x (List.mem_cons_of_mem _ hx)
    show bnd (ofO (set enb (.int k))) _ = _
    rw [h1, ofO_some, bnd_ok, h2, bnd_ok]
    cases hp : p k with
    | true =>
      rw [if_pos rfl, h3 hp, bnd_ok, List.filter_cons_of_pos hp]
      show bnd (evLc set t e enb (tn l)) _ = _
      rw [ih]
      rfl
    | false =>
      rw [if_neg (by simp), List.filter_cons_of_neg (by simp [hp])]
      exact ih
theorem eLc_ap {vs : List Nat} {evI : EvI} {set : En → D → Option En} {t : En → Rs Bool} {e : EvE} {en : En} {ds l : List D} (h1 : evI en = .ok ds) (h2 : evLc set t e (wipE vs en) ds = .ok l) (h3 : l.length < 1000000) : eLc vs evI set t e en = .ok (.lst l) := by
  have h4 : l.length ≤ sizeLine := by rw [sizeLine_eq]; omega
  show bnd (evI en) _ = _
  rw [h1, bnd_ok, h2]
  show bnd (noR (.ok l)) _ = _
  show (if l.length ≤ sizeLine then _ else _) = _
  rw [if_pos h4]
theorem plL_tn (l : List Nat) (n : Nat) : plL (tn l) n = true := by
  induction l with
  | nil => rfl
  | cons k l ih => show (pl (.int k) n && plL (tn l) n) = true; rw [ih]; rfl
theorem oIn_tn (k : Nat) (l : List Nat) : oInS false (.int k) (.lst (tn l)) = some (.bl (decide (k ∈ l))) := by
  show (if pl (.int k) 40 = true ∧ plL (tn l) 40 = true then some (D.bl (xor false ((tn l).any fun e => PyData.eqv (toP e) (toP (.int k))))) else none) = _
  rw [if_pos ⟨rfl, plL_tn l 40⟩, Bool.false_xor]
  have : ((tn l).any fun e => PyData.eqv (toP e) (toP (.int k))) = decide (k ∈ l) := by
    induction l with
    | nil => rfl
    | cons x l ih =>
      show (PyData.eqv (.int x) (.int k) || (tn l).any _) = _
      rw [ih]
      simp only [PyData.eqv, List.mem_cons]
      by_cases h : x = k
      · subst h
        simp
      · have h' : ¬ k = x := fun e => h e.symm
        have h2 : ((x : Int) == (k : Int)) = false := by simp; omega
        rw [h2]
        simp [h']
  rw [this]
/-! ### a road of the tree -/
def s_troad_at (e c : Nat) : EvS := (sSeq (sIf (tO (tV (eB2 oLt (eVar 1) (eC (.int 1)))) (tV (eB2 oGt (eVar 1) (eBi oLen (aCons (eFld c 0 (eVar 0)) aNil)))))
    (sRai e)
    sNil)
  (sRet (eFl (eB2 oIx (eFld c 0 (eVar 0)) (eB2 oSub (eVar 1) (eC (.int 1)))))))
def f_troad_at (e c : Nat) : List D → Rs D := runF 0 (s_troad_at e c)
theorem flat_rd (r : Rd3) : flat (rd r) = true := by simp [rd]
theorem troad_at_eq {e c : Nat} {Rs : List Rd3} {k : Nat} {r : Rd3} (h1 : 1 ≤ k) (h : Rs[k - 1]? = some r) : f_troad_at e c [tree c Rs, .int k] = .ok (rd r) := by
  have hl : (Rs.map rd).length = Rs.length := by simp
  have hk := (List.getElem?_eq_some_iff.mp h).1
  have g1 : ¬ ((k : Int) < 1) := by omega
  have g2 : ¬ (((Rs.length : Nat) : Int) < (k : Int)) := by omega
  have ix := rds_at h1 h
  have fl := flat_rd r
  unfold tree
  generalize Rs.map rd = RD at *
  simp [f_troad_at, s_troad_at, g1, g2, hl, ix, fl]
theorem troad_at_no {e c : Nat} {Rs : List Rd3} {k : Int} (hk : k < 1 ∨ (Rs.length : Int) < k) : f_troad_at e c [tree c Rs, .int k] = .error (.raise e) := by
  have hl : (Rs.map rd).length = Rs.length := by simp
  unfold tree
  generalize Rs.map rd = RD at *
  rcases hk with hk | hk
  · simp [f_troad_at, s_troad_at, hk]
  · by_cases z : k < 1
    · simp [f_troad_at, s_troad_at, z]
    · simp [f_troad_at, s_troad_at, hk, z, hl]
theorem rd_ex {Rs : List Rd3} {k : Nat} (h1 : 1 ≤ k) (h2 : k ≤ Rs.length) : ∃ r, Rs[k - 1]? = some r := ⟨Rs[k - 1]'(by omega), List.getElem?_eq_getElem (by omega)⟩
/-- the crossings but the market -/
def crs (n : Nat) : List Nat := (List.range n).map (· + 1)
theorem crs_mem {n k : Nat} : k ∈ crs n ↔ 1 ≤ k ∧ k ≤ n := by
  unfold crs
  rw [List.mem_map]
  constructor
  · rintro ⟨a, ha, rfl⟩
    have := List.mem_range.mp ha
    omega
  · intro h
    exact ⟨k - 1, List.mem_range.mpr (by omega), by omega⟩
theorem crs_len (n : Nat) : (crs n).length = n := by simp [crs]
theorem filt_len (p : Nat → Bool) (n : Nat) : ((crs n).filter p).length ≤ n := by
  have := List.length_filter_le p (crs n)
  rw [crs_len] at this
  exact this
/-- for over whole numbers, where nothing is kept but what the loop writes -/
theorem evFor_inv {set : En → D → Option En} {body : EvS} {P : En → Prop} : ∀ (l : List Nat) (en : En), P en → (∀ k en, k ∈ l → P en → ∃ en1 en2, set en (.int k) = some en1 ∧ body en1 = .ok (.nx en2) ∧ P en2) →
    ∃ en', evFor set body (tn l) en = .ok (.nx en') ∧ P en'
  | [], en, h, _ => ⟨en, rfl, h⟩
  | k :: l, en, h, hb => by
    obtain ⟨en1, en2, h1, h2, h3⟩ := hb k en List.mem_cons_self h
    obtain ⟨en', q1, q2⟩ := evFor_inv l en2 h3 fun x e hx => hb x e (List.mem_cons_of_mem _ hx)
    refine ⟨en', ?_, q2⟩
    show bnd (ofO (set en (.int k))) _ = _
    rw [h1, ofO_some, bnd_ok, h2, bnd_ok]
    exact q1
theorem iRn2_of {a b : EvE} {en : En} {i j : D} {ds : List D} (h : a en = .ok i) (h' : b en = .ok j) (rg : oRng [i, j] = some ds) : iRn (aCons a (aCons b aNil)) en = .ok ds := by
  rw [iRn_ap, aCons_ap, h, bnd_ok, aCons_ap, h', bnd_ok, aNil_ap, bnd_ok, bnd_ok, bnd_ok, rg]
  rfl
theorem iRn1_of {a : EvE} {en : En} {i : D} {ds : List D} (h : a en = .ok i) (rg : oRng [i] = some ds) : iRn (aCons a aNil) en = .ok ds := by
  rw [iRn_ap, aCons_ap, h, bnd_ok, aNil_ap, bnd_ok, bnd_ok, rg]
  rfl
theorem sFor_of {ev : EvI} {set : En → D → Option En} {body : EvS} {en : En} {ds : List D} {r : Rs Fl} (h : ev en = .ok ds) (q : evFor set body ds en = r) : sFor ev set body en = r := by
  rw [sFor_ap, h, bnd_ok, q]
theorem oRng_crs {n : Nat} (h : n < 100000) : oRng [.int 1, .int ((n : Int) + 1)] = some (tn (crs n)) := oRng_12 h
end Co
end
noncomputable section
namespace Co
open PySem PySem.Spec PyProof.Rows L2 Pi
/-! ### loops by the number of the turn -/
theorem evFor_ix {set : En → D → Option En} {body : EvS} {P : Nat → En → Prop} : ∀ (l : List D) (i : Nat) (en : En), P i en → (∀ j d en, l[j]? = some d → P (i + j) en → ∃ en1 en2, set en d = some en1 ∧ body en1 = .ok (.nx en2) ∧ P (i + j + 1) en2) →
    ∃ en', evFor set body l en = .ok (.nx en') ∧ P (i + l.length) en'
  | [], i, en, h, _ => ⟨en, rfl, h⟩
  | d :: l, i, en, h, hb => by
    obtain ⟨en1, en2, h1, h2, h3⟩ := hb 0 d en rfl h
    obtain ⟨en', q1, q2⟩ := evFor_ix l (i + 1) en2 h3 fun j x e hx hp => by
      have := hb (j + 1) x e (by simpa using hx) (by rw [show i + (j + 1) = i + 1 + j by omega]; exact hp)
      rw [show i + (j + 1) + 1 = i + 1 + j + 1 by omega] at this
      exact this
    refine ⟨en', ?_, by rw [List.length_cons, show i + (l.length + 1) = i + 1 + l.length by omega]; exact q2⟩
    show bnd (ofO (set en d)) _ = _
    rw [h1, ofO_some, bnd_ok, h2, bnd_ok]
    exact q1
theorem eCall1_of {fn : List D → Rs D} {a : EvE} {en : En} {x : D} {r : Rs D} (h : a en = .ok x) (q : fn [x] = r) : eCall fn (aCons a aNil) en = r := by
  rw [eCall_ap, aCons_ap, h, bnd_ok, aNil_ap, bnd_ok, bnd_ok, q]
theorem eCall2_of {fn : List D → Rs D} {a b : EvE} {en : En} {x y : D} {r : Rs D} (h : a en = .ok x) (h2 : b en = .ok y) (q : fn [x, y] = r) : eCall fn (aCons a (aCons b aNil)) en = r := by
  rw [eCall_ap, aCons_ap, h, bnd_ok, aCons_ap, h2, bnd_ok, aNil_ap, bnd_ok, bnd_ok, bnd_ok, q]
theorem eCall3_of {fn : List D → Rs D} {a b c : EvE} {en : En} {x y z : D} {r : Rs D} (h : a en = .ok x) (h2 : b en = .ok y) (h3 : c en = .ok z) (q : fn [x, y, z] = r) : eCall fn (aCons a (aCons b (aCons c aNil))) en = r := by
  rw [eCall_ap, aCons_ap, h, bnd_ok, aCons_ap, h2, bnd_ok, aCons_ap, h3, bnd_ok, aNil_ap, bnd_ok, bnd_ok, bnd_ok, bnd_ok, q]
theorem eMeth0_of {c : Nat} {fn : List D → Rs D} {o : EvE} {en : En} {l : List D} {r : Rs D} (h : o en = .ok (.obj c l)) (q : fn [.obj c l] = r) : eMeth c fn o aNil en = r := by
  rw [eMeth_ap, h, bnd_ok]
  show (if c = c then _ else _) = _
  rw [if_pos rfl, aNil_ap, bnd_ok, q]
theorem eMeth1_of {c : Nat} {fn : List D → Rs D} {o a : EvE} {en : En} {l : List D} {x : D} {r : Rs D} (h : o en = .ok (.obj c l)) (h2 : a en = .ok x) (q : fn [.obj c l, x] = r) : eMeth c fn o (aCons a aNil) en = r := by
  rw [eMeth_ap, h, bnd_ok]
  show (if c = c then _ else _) = _
  rw [if_pos rfl, aCons_ap, h2, bnd_ok, aNil_ap, bnd_ok, bnd_ok, q]
theorem eB2_of {op : D → D → Option D} {a b : EvE} {en : En} {x y z : D} (h : a en = .ok x) (h2 : b en = .ok y) (q : op x y = some z) : eB2 op a b en = .ok z := by
  rw [eB2_ap, h, bnd_ok, h2, bnd_ok, q]
  rfl
theorem eBi1_of {op : List D → Option D} {a : EvE} {en : En} {x z : D} (h : a en = .ok x) (q : op [x] = some z) : eBi op (aCons a aNil) en = .ok z := by
  rw [eBi_ap, aCons_ap, h, bnd_ok, aNil_ap, bnd_ok, bnd_ok, q]
  rfl
theorem sAs_of {i : Nat} {ev : EvE} {en : En} {d : D} (h : ev en = .ok d) : sAs i ev en = .ok (.nx (en.set i (some d))) := by
  rw [sAs_ap, h, bnd_ok]
theorem tV_of {ev : EvE} {en : En} {b : Bool} (h : ev en = .ok (.bl b)) : tV ev en = .ok b := by
  rw [tV_ap, h, bnd_ok]
  rfl
/-! ### names -/
abbrev abc : Str := Str.ofString "abcdefghijklmnopqrstuvwxyz"
def let1 (c : Nat) : Str := ⟨#[c]⟩
theorem abc_len : abc.length = 26 := by decide +kernel
theorem abc_at {i : Int} (h0 : 0 ≤ i) (h : i < 26) : ∃ c : Nat, oIx (.str abc) (.int i) = some (.str (let1 c)) := by
  obtain ⟨n, rfl⟩ : ∃ n : Nat, i = n := ⟨i.toNat, by omega⟩
  have hl : abc.cps.toList.length = 26 := by have := abc_len; simpa [Str.length] using this
  have hn : n < abc.cps.toList.length := by omega
  refine ⟨abc.cps.toList[n], ?_⟩
  have sz : abc.length ≤ sizeLine := by rw [abc_len, sizeLine_eq]; decide
  have at_ := atI_nat hn
  generalize abc = z at *
  show (if z.length ≤ sizeLine then (L2.atI z.cps.toList (n : Int)).map fun c => D.str ⟨#[c]⟩ else none) = _
  rw [if_pos sz, at_]
  rfl
theorem join_len : ∀ xs : List Str, (Str.join Str.empty xs).length = (xs.map (·.length)).sum
  | [] => rfl
  | [x] => by simp [Str.join]
  | x :: y :: xs => by
    have ih := join_len (y :: xs)
    have e : (Str.join Str.empty (x :: y :: xs)) = x ++ Str.empty ++ Str.join Str.empty (y :: xs) := rfl
    have ap : ∀ a b : Str, (a ++ b).length = a.length + b.length := fun a b => by
      show (a.cps ++ b.cps).size = _
      rw [Array.size_append]
      rfl
    rw [e, ap, ap, ih, List.map_cons, List.sum_cons]
    rfl
theorem strsL_map (xs : List Str) : strsL (xs.map .str) = some xs := by
  induction xs with
  | nil => rfl
  | cons x xs ih => show (strsL (xs.map .str)).map (x :: ·) = _; rw [ih]; rfl
theorem slice_len (z : Str) (i : Int) : (Txt.slice z none (some i)).length ≤ z.length := by
  rw [← C8.cutS_slice]
  unfold cutS
  show (List.toArray _).size ≤ _
  rw [List.size_toArray, List.length_take, List.length_drop]
  have : z.cps.toList.length = z.length := by simp [Str.length]
  omega
def s_tnames : EvS := (sSeq (sAs 2 (eC (.str abc)))
  (sSeq (sAs 3 (eLst aNil))
  (sSeq (sAs 4 (eB2 oDiv (eVar 0) (eC (.int 64))))
  (sSeq (sFor (iRn (aCons (eB2 oAdd (eC (.int 1)) (eB2 oMod (eVar 0) (eC (.int 8)))) aNil)) (set1 5)
    (sSeq (sApp 3 (eFl (eB2 oIx (eVar 2) (eB2 oMod (eVar 4) (eC (.int 26))))))
  (sAs 4 (eB2 oDiv (eVar 4) (eC (.int 26))))))
  (sSeq (sAs 6 (eB2 oMod (eB2 oDiv (eVar 0) (eC (.int 8))) (eBi oLen (aCons (eVar 3) aNil))))
  (sSeq (sAs 7 (eM1 oFind (eVar 2) (eB2 oIx (eVar 3) (eVar 6))))
  (sSeq (sAs 8 (eLst aNil))
  (sSeq (sFor (iRn (aCons (eVar 1) aNil)) (set1 5)
    (sSeq (sAs 9 (eBi oList (aCons (eVar 3) aNil)))
  (sSeq (sSub 9 (eVar 6) (eFl (eB2 oIx (eVar 2) (eB2 oMod (eVar 7) (eC (.int 26))))))
  (sSeq (sAs 7 (eB2 oAdd (eVar 7) (eB2 oIx (eLst (aCons (eC (.int 1)) (aCons (eC (.int 25)) aNil))) (eB2 oMod (eB2 oDiv (eVar 0) (eC (.int 512))) (eC (.int 2))))))
  (sSeq (sAs 10 (eB2 oMod (eB2 oMul (eVar 5) (eB2 oMod (eB2 oDiv (eVar 0) (eC (.int 1024))) (eC (.int 2)))) (eB2 oSub (eC (.int 9)) (eBi oLen (aCons (eVar 3) aNil)))))
  (sApp 8 (eB2 oAdd (eM1 oJoin (eC (.str "")) (eVar 9)) (eSl (eC (.str "qqqqqqq")) oNo (oYes (eVar 10))))))))))
  (sRet (eVar 8))))))))))
def f_tnames : List D → Rs D := runF 9 s_tnames
/-- texts as data -/
def ts (xs : List Str) : List D := xs.map .str
theorem ts_len (xs : List Str) : (ts xs).length = xs.length := by simp [ts]
theorem ts_app (xs : List Str) (x : Str) : ts xs ++ [.str x] = ts (xs ++ [x]) := by simp [ts]
theorem ts_at {xs : List Str} {n : Nat} (h : n < xs.length) : oIx (.lst (ts xs)) (.int n) = some (.str xs[n]) := by
  rw [oIx_lst (by rw [ts_len]; exact h)]
  simp [ts]
theorem word_loop (c : Int) (m : D) (r : En) (n : Nat) (hn : n ≤ 8) : ∃ (w : List Nat) (x : Int) (o : Option D), w.length = n ∧ evFor (set1 5) (sSeq (sApp 3 (eFl (eB2 oIx (eVar 2) (eB2 oMod (eVar 4) (eC (.int 26))))))
  (sAs 4 (eB2 oDiv (eVar 4) (eC (.int 26))))) (tn (List.range n)) (some (.int c) :: some m :: some (.str abc) :: some (.lst []) :: some (.int (c.fdiv 64)) :: none :: r) = .ok (.nx (some (.int c) :: some m :: some (.str abc) :: some (.lst (ts (w.map let1))) :: some (.int x) :: o :: r)) := by
  obtain ⟨en', q1, w, x, o, he, hw⟩ := evFor_ix (set := set1 5) (body := (sSeq (sApp 3 (eFl (eB2 oIx (eVar 2) (eB2 oMod (eVar 4) (eC (.int 26))))))
    (sAs 4 (eB2 oDiv (eVar 4) (eC (.int 26)))))) (P := fun i en => ∃ (w : List Nat) (x : Int) (o : Option D), en = (some (.int c) :: some m :: some (.str abc) :: some (.lst (ts (w.map let1))) :: some (.int x) :: o :: r) ∧ w.length = i) (tn (List.range n)) 0
    (some (.int c) :: some m :: some (.str abc) :: some (.lst []) :: some (.int (c.fdiv 64)) :: none :: r) ⟨[], _, _, rfl, rfl⟩ (fun j d en hj ⟨w, x, o, he, hw⟩ => by
      subst he
      have hj2 : j < n := by have := (List.getElem?_eq_some_iff.mp hj).1; simpa [tn] using this
      have h0 := Int.fmod_nonneg_of_pos x (b := 26) (by decide)
      have h1 := Int.fmod_lt_of_pos x (b := 26) (by decide)
      obtain ⟨l, el⟩ := abc_at h0 h1
      have hd : oDiv (.int x) (.int 26) = some (.int (x.fdiv 26)) := oDiv_int (divOk_of (m := 6) (by decide) (by decide) (by decide) (by decide))
      have sz : (ts (w.map let1)).length < sizeLine := by rw [ts_len, List.length_map, sizeLine_eq]; omega
      have ap : ts (w.map let1) ++ [.str (let1 l)] = ts ((w ++ [l]).map let1) := by simp [ts]
      refine ⟨(some (.int c) :: some m :: some (.str abc) :: some (.lst (ts (w.map let1))) :: some (.int x) :: some d :: r), _, rfl, ?_, w ++ [l], x.fdiv 26, some d, rfl, by simp; omega⟩
      generalize ts (w.map let1) = W at *
      generalize abc = z at *
      simp [oMod_int, el, sz, hd, ap])
  subst he
  exact ⟨w, x, o, by simpa [tn] using hw, q1⟩
theorem set_sum (w : List Nat) (s l : Nat) : (((w.map let1).set s (let1 l)).map (·.length)).sum ≤ w.length := by
  have e : ((w.map let1).set s (let1 l)).map (·.length) = List.replicate w.length 1 := by
    rw [List.map_set, List.map_map]
    apply List.ext_getElem?
    intro i
    by_cases h : i < w.length
    · by_cases e : s = i
      · subst e
        rw [List.getElem?_set_self (by simpa using h), List.getElem?_replicate_of_lt h]
        rfl
      · rw [List.getElem?_set_ne e, List.getElem?_map, List.getElem?_eq_getElem h, List.getElem?_replicate_of_lt h]
        rfl
    · rw [List.getElem?_eq_none (by simp; omega), List.getElem?_eq_none (by simp; omega)]
  rw [e]
  simp
abbrev bNm : EvS := (sSeq (sAs 9 (eBi oList (aCons (eVar 3) aNil)))
  (sSeq (sSub 9 (eVar 6) (eFl (eB2 oIx (eVar 2) (eB2 oMod (eVar 7) (eC (.int 26))))))
  (sSeq (sAs 7 (eB2 oAdd (eVar 7) (eB2 oIx (eLst (aCons (eC (.int 1)) (aCons (eC (.int 25)) aNil))) (eB2 oMod (eB2 oDiv (eVar 0) (eC (.int 512))) (eC (.int 2))))))
  (sSeq (sAs 10 (eB2 oMod (eB2 oMul (eVar 5) (eB2 oMod (eB2 oDiv (eVar 0) (eC (.int 1024))) (eC (.int 2)))) (eB2 oSub (eC (.int 9)) (eBi oLen (aCons (eVar 3) aNil)))))
  (sApp 8 (eB2 oAdd (eM1 oJoin (eC (.str "")) (eVar 9)) (eSl (eC (.str "qqqqqqq")) oNo (oYes (eVar 10)))))))))
@[simp] theorem eM1_ap (op : D → D → Option D) (a b : EvE) (en : En) : eM1 op a b en = bnd (a en) fun x => if isSt x = true then bnd (b en) fun y => ofO (op x y) else .error .stuck := rfl
@[simp] theorem eM0_ap (op : D → Option D) (a : EvE) (en : En) : eM0 op a en = bnd (a en) fun x => if isSt x = true then ofO (op x) else .error .stuck := rfl
@[simp] theorem eSl_ap (a : EvE) (lo hi : En → Rs (Option Int)) (en : En) : eSl a lo hi en = bnd (a en) fun x => bnd (lo en) fun l => bnd (hi en) fun h => ofO (oSl x l h) := rfl
@[simp] theorem oNo_ap (en : En) : oNo en = .ok none := rfl
@[simp] theorem oYes_ap (a : EvE) (en : En) : oYes a en = bnd (a en) fun d => match d with
  | .int i => .ok (some i)
  | _ => .error .stuck := rfl
@[simp] theorem isSt_str (x : Str) : isSt (.str x) = true := rfl
theorem bNm_eq (c : Int) (m x4 o9 o10 : Option D) (w : List Nat) (s k : Nat) (x7 : Int) (xs : List Str) (h1 : w.length ≤ 8) (hs : s < w.length) (hk : k < 1000) (hx : xs.length < 1000) : ∃ (y7 : Int) (p9 p10 : Option D) (z : Str),
    bNm [some (.int c), m, some (.str abc), some (.lst (ts (w.map let1))), x4, some (.int k), some (.int s), some (.int x7), some (.lst (ts xs)), o9, o10] = .ok (.nx [some (.int c), m, some (.str abc), some (.lst (ts (w.map let1))), x4, some (.int k), some (.int s), some (.int y7), some (.lst (ts (xs ++ [z]))), p9, p10]) := by
  have a0 := Int.fmod_nonneg_of_pos x7 (b := 26) (by decide)
  have a1 := Int.fmod_lt_of_pos x7 (b := 26) (by decide)
  obtain ⟨l, el⟩ := abc_at a0 a1
  have hd5 : oDiv (.int c) (.int 512) = some (.int (c.fdiv 512)) := oDiv_int (divOk_of (m := 11) (by decide) (by decide) (by decide) (by decide))
  have hd10 : oDiv (.int c) (.int 1024) = some (.int (c.fdiv 1024)) := oDiv_int (divOk_of (m := 12) (by decide) (by decide) (by decide) (by decide))
  have b0 := Int.fmod_nonneg_of_pos (c.fdiv 512) (b := 2) (by decide)
  have b1 := Int.fmod_lt_of_pos (c.fdiv 512) (b := 2) (by decide)
  obtain ⟨st, est⟩ : ∃ st : Int, oIx (.lst [.int 1, .int 25]) (.int ((c.fdiv 512).fmod 2)) = some (.int st) := by
    rcases (by omega : (c.fdiv 512).fmod 2 = 0 ∨ (c.fdiv 512).fmod 2 = 1) with e | e
    · exact ⟨1, by rw [e]; rfl⟩
    · exact ⟨25, by rw [e]; rfl⟩
  have hm : mulOk (k : Int) ((c.fdiv 1024).fmod 2) = true := mulOk_l (by omega)
  have hL : (ts (w.map let1)).length = w.length := by rw [ts_len, List.length_map]
  have hne : (9 : Int) - (w.length : Int) ≠ 0 := by omega
  generalize hmo : ((k : Int) * (c.fdiv 1024).fmod 2).fmod (9 - (w.length : Int)) = mo
  have ix : ixN (ts (w.map let1)).length (s : Int) = some s := by rw [hL]; exact ixN_nat hs
  have est2 : (ts (w.map let1)).set s (.str (let1 l)) = ts ((w.map let1).set s (let1 l)) := by simp [ts, List.map_set]
  have eE : (Str.ofString "" : Str) = Str.empty := by decide +kernel
  have txj := TL.join_eq Str.empty ((w.map let1).set s (let1 l))
  have jn : oJoin (.str (Str.ofString "")) (.lst (ts ((w.map let1).set s (let1 l)))) = some (.str (Str.join Str.empty ((w.map let1).set s (let1 l)))) := by
    have hsum := set_sum w s l
    show (strsL (ts ((w.map let1).set s (let1 l)))).bind _ = _
    rw [show ts ((w.map let1).set s (let1 l)) = ((w.map let1).set s (let1 l)).map .str from rfl, strsL_map, eE]
    show (if _ ≤ 16777216 then _ else _) = _
    rw [if_pos (by rw [show Str.empty.length = 0 from rfl]; omega), txj]
  have jl : (Str.join Str.empty ((w.map let1).set s (let1 l))).length ≤ 8 := by
    rw [join_len]
    have := set_sum w s l
    omega
  have ql : (Str.ofString "qqqqqqq").length = 7 := by decide +kernel
  have sl : oSl (.str (Str.ofString "qqqqqqq")) none (some mo) = some (.str (Txt.slice (Str.ofString "qqqqqqq") none (some mo))) := by
    show (if (Str.ofString "qqqqqqq").length ≤ sizeLine then some (D.str (Txt.slice (Str.ofString "qqqqqqq") none (some mo))) else none) = _
    rw [if_pos (by rw [ql, sizeLine_eq]; decide)]
  have sll := slice_len (Str.ofString "qqqqqqq") mo
  rw [ql] at sll
  generalize Str.join Str.empty ((w.map let1).set s (let1 l)) = j at *
  generalize Txt.slice (Str.ofString "qqqqqqq") none (some mo) = q at *
  have ad : oAdd (.str j) (.str q) = some (.str (j ++ q)) := by
    show (if j.length + q.length ≤ sizeLine then _ else _) = _
    rw [if_pos (by rw [sizeLine_eq]; omega)]
  have sz : (ts xs).length < sizeLine := by rw [ts_len, sizeLine_eq]; omega
  have ap := ts_app xs (j ++ q)
  refine ⟨x7 + st, some (.lst (ts ((w.map let1).set s (let1 l)))), some (.int mo), j ++ q, ?_⟩
  unfold bNm
  have li : ∀ W, oList [.lst W] = some (.lst W) := fun _ => rfl
  rw [seq_nx (en' := [some (.int c), m, some (.str abc), some (.lst (ts (w.map let1))), x4, some (.int k), some (.int s), some (.int x7), some (.lst (ts xs)), some (.lst (ts (w.map let1))), o10]) (by
    generalize ts (w.map let1) = W at *
    simp [li])]
  rw [seq_nx (en' := [some (.int c), m, some (.str abc), some (.lst (ts (w.map let1))), x4, some (.int k), some (.int s), some (.int x7), some (.lst (ts xs)), some (.lst (ts ((w.map let1).set s (let1 l)))), o10]) (by
    rw [← est2]
    generalize ts (w.map let1) = W at *
    generalize abc = z at *
    simp [sSub, oMod_int, el, ix])]
  generalize ts ((w.map let1).set s (let1 l)) = W2 at *
  generalize ts (w.map let1) = W at *
  generalize abc = z at *
  generalize ts (xs ++ [j ++ q]) = Y at *
  generalize ts xs = Z at *
  generalize hE : (Str.ofString "" : Str) = e0 at *
  generalize hQ : (Str.ofString "qqqqqqq" : Str) = q0 at *
  simp [hd5, oMod_int, est, hd10, oMul_int hm, hL, hne, hmo, jn, sl, ad, sz, ap]
theorem tn_ix {l : List Nat} {j : Nat} {d : D} (h : (tn l)[j]? = some d) : ∃ k, l[j]? = some k ∧ d = .int k := by
  unfold tn at h
  rw [List.getElem?_map] at h
  obtain ⟨k, h1, h2⟩ := Option.map_eq_some_iff.mp h
  exact ⟨k, h1, h2.symm⟩
theorem tnames_eq (c : Int) {m : Nat} (hm : m < 900) : ∃ xs : List Str, xs.length = m ∧ f_tnames [.int c, .int m] = .ok (.lst (ts xs)) := by
  have hd64 : oDiv (.int c) (.int 64) = some (.int (c.fdiv 64)) := oDiv_int (divOk_of (m := 8) (by decide) (by decide) (by decide) (by decide))
  have hd8 : oDiv (.int c) (.int 8) = some (.int (c.fdiv 8)) := oDiv_int (divOk_of (m := 5) (by decide) (by decide) (by decide) (by decide))
  have a0 := Int.fmod_nonneg_of_pos c (b := 8) (by decide)
  have a1 := Int.fmod_lt_of_pos c (b := 8) (by decide)
  obtain ⟨n, en⟩ : ∃ n : Nat, 1 + c.fmod 8 = n := ⟨(1 + c.fmod 8).toNat, by omega⟩
  obtain ⟨w, x4, o5, hw, q1⟩ := word_loop c (.int m) [none, none, none, none, none] n (by omega)
  have rg := oRng_nat (m := n) (by omega)
  rw [← tn_range] at rg
  have b0 := Int.fmod_nonneg_of_pos (c.fdiv 8) (b := (w.length : Int)) (by omega)
  have b1 := Int.fmod_lt_of_pos (c.fdiv 8) (b := (w.length : Int)) (by omega)
  obtain ⟨s, es⟩ : ∃ s : Nat, (c.fdiv 8).fmod (w.length : Int) = s := ⟨((c.fdiv 8).fmod (w.length : Int)).toNat, by omega⟩
  have hs : s < w.length := by omega
  have at3 := ts_at (xs := w.map let1) (n := s) (by simpa using hs)
  have rg2 := oRng_nat (m := m) (by omega)
  rw [← tn_range] at rg2
  obtain ⟨en', q2, xs, o5', x7', o9, o10, he, hx⟩ := evFor_ix (set := set1 5) (body := bNm) (P := fun i en => ∃ (xs : List Str) (o5 : Option D) (x7 : Int) (o9 o10 : Option D), en = [some (.int c), some (.int m), some (.str abc), some (.lst (ts (w.map let1))), some (.int x4), o5, some (.int s), some (.int x7), some (.lst (ts xs)), o9, o10] ∧ xs.length = i) (tn (List.range m)) 0
    [some (.int c), some (.int m), some (.str abc), some (.lst (ts (w.map let1))), some (.int x4), o5, some (.int s), some (.int (Txt.find abc ((w.map let1)[s]'(by simpa using hs)))), some (.lst (ts [])), none, none] ⟨[], _, _, _, _, rfl, rfl⟩ (fun j d e hj ⟨xs, o5, x7, o9, o10, he, hx⟩ => by
      subst he
      obtain ⟨k, hk, rfl⟩ := tn_ix hj
      have hj2 := (List.getElem?_eq_some_iff.mp hk).1
      rw [List.length_range] at hj2
      rw [List.getElem?_range hj2] at hk
      cases hk
      obtain ⟨y7, p9, p10, z, ez⟩ := bNm_eq c (some (.int m)) (some (.int x4)) o9 o10 w s j x7 xs (by omega) hs (by omega) (by omega)
      exact ⟨_, _, rfl, ez, xs ++ [z], _, _, _, _, rfl, by simp; omega⟩)
  subst he
  refine ⟨xs, by simpa [tn] using hx, ?_⟩
  unfold f_tnames
  rw [runF_ap]
  show endR (s_tnames [some (.int c), some (.int m), none, none, none, none, none, none, none, none, none]) = _
  unfold s_tnames
  refine step_nx (en' := [some (.int c), some (.int m), some (.str abc), none, none, none, none, none, none, none, none]) rfl ?_
  refine step_nx (en' := [some (.int c), some (.int m), some (.str abc), some (.lst []), none, none, none, none, none, none, none]) rfl ?_
  refine step_nx (en' := [some (.int c), some (.int m), some (.str abc), some (.lst []), some (.int (c.fdiv 64)), none, none, none, none, none, none]) (by
    generalize abc = z at *
    simp [hd64]) ?_
  refine step_nx (en' := [some (.int c), some (.int m), some (.str abc), some (.lst (ts (w.map let1))), some (.int x4), o5, none, none, none, none, none]) (sFor_of (iRn1_of (by
    generalize abc = z at *
    simp [oMod_int, en]) rg) q1) ?_
  refine step_nx (en' := [some (.int c), some (.int m), some (.str abc), some (.lst (ts (w.map let1))), some (.int x4), o5, some (.int s), none, none, none, none]) (by
    have hL : (ts (w.map let1)).length = w.length := by rw [ts_len, List.length_map]
    have hne : (w.length : Int) ≠ 0 := by omega
    generalize ts (w.map let1) = W at *
    generalize abc = z at *
    simp [hd8, hL, oMod_int hne, es]) ?_
  refine step_nx (en' := [some (.int c), some (.int m), some (.str abc), some (.lst (ts (w.map let1))), some (.int x4), o5, some (.int s), some (.int (Txt.find abc ((w.map let1)[s]'(by simpa using hs)))), none, none, none]) (by
    generalize (w.map let1)[s]'(by simpa using hs) = l at *
    generalize ts (w.map let1) = W at *
    generalize abc = z at *
    simp [at3, oFind]) ?_
  refine step_nx (en' := [some (.int c), some (.int m), some (.str abc), some (.lst (ts (w.map let1))), some (.int x4), o5, some (.int s), some (.int (Txt.find abc ((w.map let1)[s]'(by simpa using hs)))), some (.lst (ts [])), none, none]) rfl ?_
  refine step_nx (sFor_of (iRn1_of (by
    generalize abc = z at *
    simp) rg2) q2) ?_
  rfl
/-! ### homes -/
abbrev Hms := List (Str × Nat)
def hmK (h : Hms) : List Key := h.map fun p => Sum.inr p.1
def hmV (h : Hms) : List D := h.map fun p => .int p.2
def homesD (h : Hms) : D := .dct (hmK h) (hmV h)
def putH (h : Hms) (x : Str) (v : Nat) : Hms := if x ∈ h.map (·.1) then h.map fun p => if p.1 = x then (p.1, v) else p else h ++ [(x, v)]
theorem kIn_hm (h : Hms) (x : Str) : kIn (hmK h) (.inr x) = decide (x ∈ h.map (·.1)) := by
  induction h with
  | nil => rfl
  | cons p h ih =>
    show kIn (Sum.inr p.1 :: hmK h) (.inr x) = _
    rw [kIn_cons, ih]
    by_cases e : p.1 = x
    · simp [e]
    · have e' : ¬ x = p.1 := fun z => e z.symm
      simp [e, e']
theorem dSet_hm (h : Hms) (x : Str) (v : Nat) : dSet (hmK h) (hmV h) (.inr x) (.int v) = hmV (h.map fun p => if p.1 = x then (p.1, v) else p) := by
  induction h with
  | nil => rfl
  | cons p h ih =>
    show (if (Sum.inr p.1 : Key) = .inr x then D.int v else .int p.2) :: dSet (hmK h) (hmV h) (.inr x) (.int v) = _
    rw [ih]
    by_cases e : p.1 = x
    · simp [hmV, e]
    · simp [hmV, e]
theorem dPut_hm (h : Hms) (x : Str) (v : Nat) : dPut (hmK h) (hmV h) (.inr x) (.int v) = (hmK (putH h x v), hmV (putH h x v)) := by
  unfold dPut putH
  rw [kIn_hm]
  by_cases e : x ∈ h.map (·.1)
  · rw [if_pos (by simpa using e), if_pos e, dSet_hm]
    have : hmK (h.map fun p => if p.1 = x then (p.1, v) else p) = hmK h := by
      unfold hmK
      rw [List.map_map]
      apply List.map_congr_left
      intro p _
      by_cases q : p.1 = x <;> simp [q]
    rw [this]
  · rw [if_neg (by simpa using e), if_neg e]
    simp [hmK, hmV]
theorem putH_nd {h : Hms} (x : Str) (v : Nat) (nd : (h.map (·.1)).Nodup) : ((putH h x v).map (·.1)).Nodup := by
  unfold putH
  split
  · have : (h.map fun p => if p.1 = x then (p.1, v) else p).map (·.1) = h.map (·.1) := by
      rw [List.map_map]
      apply List.map_congr_left
      intro p _
      by_cases q : p.1 = x <;> simp [q]
    rw [this]
    exact nd
  · rename_i hn
    rw [List.map_append]
    refine List.nodup_append.mpr ⟨nd, by simp, fun a ha b hb => ?_⟩
    have : b = x := by simpa using hb
    subst this
    intro e
    subst e
    exact hn ha
theorem putH_le {h : Hms} {n : Nat} (x : Str) {v : Nat} (le : ∀ p, p ∈ h → p.2 ≤ n) (hv : v ≤ n) : ∀ p, p ∈ putH h x v → p.2 ≤ n := by
  intro p hp
  unfold putH at hp
  split at hp
  · obtain ⟨q, hq, e⟩ := List.mem_map.mp hp
    by_cases z : q.1 = x
    · rw [if_pos z] at e; rw [← e]; exact hv
    · rw [if_neg z] at e; rw [← e]; exact le q hq
  · rcases List.mem_append.mp hp with hp | hp
    · exact le p hp
    · have : p = (x, v) := by simpa using hp
      rw [this]; exact hv
theorem putH_len (h : Hms) (x : Str) (v : Nat) : (putH h x v).length ≤ h.length + 1 := by
  unfold putH
  split <;> simp
/-- villages and where they live -/
structure Hm (n : Nat) (h : Hms) : Prop where
  nd : (h.map (·.1)).Nodup
  le : ∀ p, p ∈ h → p.2 ≤ n
  few : h.length < 60
theorem hmK_len (h : Hms) : (hmK h).length = h.length := by simp [hmK]
/-- where one lives -/
def home (h : Hms) (x : Str) : Nat := ((h.find? fun p => decide (p.1 = x)).map (·.2)).getD 0
theorem dGet_hm {h : Hms} {x : Str} (hx : x ∈ h.map (·.1)) : dGet (hmK h) (hmV h) (.inr x) = some (.int (home h x)) := by
  induction h with
  | nil => cases hx
  | cons p h ih =>
    show (if (Sum.inr p.1 : Key) = .inr x then some (D.int p.2) else dGet (hmK h) (hmV h) (.inr x)) = _
    by_cases e : p.1 = x
    · rw [if_pos (by rw [e])]
      simp [home, List.find?_cons, e]
    · rw [if_neg (fun z => e (Sum.inr.inj z))]
      have : x ∈ h.map (·.1) := by
        rcases List.mem_cons.mp hx with z | z
        · exact absurd z.symm e
        · exact z
      rw [ih this]
      simp [home, List.find?_cons, e]
theorem home_mem {h : Hms} {x : Str} (hx : x ∈ h.map (·.1)) : (x, home h x) ∈ h := by
  induction h with
  | nil => cases hx
  | cons p h ih =>
    by_cases e : p.1 = x
    · have : home (p :: h) x = p.2 := by simp [home, List.find?_cons, e]
      rw [this, ← e]
      exact List.mem_cons_self
    · have hx' : x ∈ h.map (·.1) := by
        rcases List.mem_cons.mp hx with z | z
        · exact absurd z.symm e
        · exact z
      have : home (p :: h) x = home h x := by simp [home, List.find?_cons, e]
      rw [this]
      exact List.mem_cons_of_mem _ (ih hx')
theorem oDG_hm {h : Hms} {x : Str} (hx : x ∈ h.map (·.1)) : oDG (homesD h) (.str x) = some (.int (home h x)) := by
  show ((some (Sum.inr x) : Option Key)).bind (fun k => dGet (hmK h) (hmV h) k) = _
  exact dGet_hm hx
/-! ### the drawn homes -/
def s_thomes : EvS := (sSeq (sAs 3 (eCall f_cell (aCons (eVar 0) (aCons (eC (.int 4)) aNil))))
  (sSeq (sAs 4 (eCall f_tnames (aCons (eB2 oDiv (eVar 3) (eFl (eB2 oAdd (eVar 2) (eC (.int 1))))) (aCons (eB2 oMod (eVar 3) (eFl (eB2 oAdd (eVar 2) (eC (.int 1))))) aNil))))
  (sSeq (sAs 5 (eC (.dct [] [])))
  (sSeq (sFor (iZp (aCons (eVar 4) (aCons (eCall f_tnumbers (aCons (eCall f_cell (aCons (eVar 0) (aCons (eC (.int 5)) aNil))) (aCons (eBi oLen (aCons (eVar 4) aNil)) (aCons (eC (.int 41)) aNil)))) aNil))) (setT [6, 7])
    (sDSub 5 (eVar 6) (eB2 oMod (eVar 7) (eVar 1))))
  (sRet (eVar 5))))))
def f_thomes : List D → Rs D := runF 5 s_thomes
@[simp] theorem getD_0 (ks : List Key) (l : List D) (r : En) : Pi.getD 0 (some (.dct ks l) :: r) = .ok (ks, l) := rfl
@[simp] theorem getD_s (n : Nat) (o : Option D) (r : En) : Pi.getD (n + 1) (o :: r) = Pi.getD n r := rfl
@[simp] theorem dK_str (x : Str) : dK (.str x) = some (.inr x) := rfl
@[simp] theorem dK_int (x : Int) : dK (.int x) = some (.inl x) := rfl
@[simp] theorem sDSub_ap (i : Nat) (ek ev : EvE) (en : En) : sDSub i ek ev en = bnd (Pi.getD i en) fun p => bnd (ev en) fun d => bnd (ek en) fun kd => bnd (ofO (dK kd)) fun k =>
  if p.1.length < sizeLine then .ok (.nx (en.set i (some (.dct (dPut p.1 p.2 k d).1 (dPut p.1 p.2 k d).2)))) else .error .stuck := rfl
theorem oZip_lst (a b : List D) : oZip [.lst a, .lst b] = some (zipD a b) := rfl
theorem iZp_of {a b : EvE} {en : En} {x y : List D} (h : a en = .ok (.lst x)) (h' : b en = .ok (.lst y)) : iZp (aCons a (aCons b aNil)) en = .ok (zipD x y) := by
  unfold iZp
  rw [aCons_ap, h, bnd_ok, aCons_ap, h', bnd_ok, aNil_ap, bnd_ok, bnd_ok, bnd_ok, oZip_lst]
  rfl
theorem zip_ts {xs : List Str} {l : List Int} {j : Nat} {d : D} (h : (zipD (ts xs) (l.map .int))[j]? = some d) : ∃ x v, x ∈ xs ∧ v ∈ l ∧ j < xs.length ∧ d = .tup [.str x, .int v] := by
  obtain ⟨a, b, h1, h2, e⟩ := zipD_at _ _ _ _ h
  unfold ts at h1
  rw [List.getElem?_map] at h1 h2
  obtain ⟨x, q1, rfl⟩ := Option.map_eq_some_iff.mp h1
  obtain ⟨v, q2, rfl⟩ := Option.map_eq_some_iff.mp h2
  exact ⟨x, v, List.mem_of_getElem? q1, List.mem_of_getElem? q2, (List.getElem?_eq_some_iff.mp q1).1, e⟩
theorem thomes_eq (ns : List Int) {n : Nat} (hn : n ≤ 40) {most : Nat} (hm : most < 50) : ∃ h : Hms, Hm n h ∧ h.length ≤ most ∧ f_thomes [.scr ns, .int ((n : Int) + 1), .int most] = .ok (homesD h) := by
  have c4 : f_cell [.scr ns, .int 4] = .ok (.int (cellAt ns 4)) := cell_eq ns 4
  have c5 : f_cell [.scr ns, .int 5] = .ok (.int (cellAt ns 5)) := cell_eq ns 5
  generalize cellAt ns 4 = c at c4
  have hd : oDiv (.int c) (.int ((most : Int) + 1)) = some (.int (c.fdiv ((most : Int) + 1))) := oDiv_int (divOk_of (m := 6) (by omega) (by omega) (by decide) (by decide))
  have hz : (most : Int) + 1 ≠ 0 := by omega
  have a0 := Int.fmod_nonneg_of_pos c (b := (most : Int) + 1) (by omega)
  have a1 := Int.fmod_lt_of_pos c (b := (most : Int) + 1) (by omega)
  obtain ⟨m, em⟩ : ∃ m : Nat, c.fmod ((most : Int) + 1) = m := ⟨(c.fmod ((most : Int) + 1)).toNat, by omega⟩
  obtain ⟨xs, hx, e1⟩ := tnames_eq (c.fdiv ((most : Int) + 1)) (m := m) (by omega)
  obtain ⟨l, l1, l2, l3⟩ := tnumbers_eq (c := cellAt ns 5) (most := 41) (by decide) (by unfold B; exact Nat.lt_of_lt_of_le (by decide : 41 < 2 ^ 6) (Nat.pow_le_pow_right (by decide) (by decide))) (m := m) (by omega)
  have hnz : (n : Int) + 1 ≠ 0 := by omega
  obtain ⟨en', q1, h, o6, o7, he, hh, hlen⟩ := evFor_ix (set := setT [6, 7]) (body := sDSub 5 (eVar 6) (eB2 oMod (eVar 7) (eVar 1))) (P := fun i en => ∃ (h : Hms) (o6 o7 : Option D), en = [some (.scr ns), some (.int ((n : Int) + 1)), some (.int most), some (.int c), some (.lst (ts xs)), some (homesD h), o6, o7] ∧ ((h.map (·.1)).Nodup ∧ ∀ p, p ∈ h → p.2 ≤ n) ∧ h.length ≤ i) (zipD (ts xs) (l.map .int)) 0
    [some (.scr ns), some (.int ((n : Int) + 1)), some (.int most), some (.int c), some (.lst (ts xs)), some (.dct [] []), none, none] ⟨[], none, none, rfl, ⟨List.nodup_nil, fun p hp => by cases hp⟩, Nat.le_refl _⟩ (fun j d e hj ⟨h, o6, o7, he, ⟨hnd, hle⟩, hl⟩ => by
      subst he
      obtain ⟨x, v, hxm, hv, hjx, rfl⟩ := zip_ts hj
      have b0 := Int.fmod_nonneg_of_pos v (b := (n : Int) + 1) (by omega)
      have b1 := Int.fmod_lt_of_pos v (b := (n : Int) + 1) (by omega)
      obtain ⟨u, eu⟩ : ∃ u : Nat, v.fmod ((n : Int) + 1) = u := ⟨(v.fmod ((n : Int) + 1)).toNat, by omega⟩
      have sz : (hmK h).length < sizeLine := by rw [hmK_len, sizeLine_eq]; omega
      have pt := dPut_hm h x u
      have pl := putH_len h x u
      refine ⟨[some (.scr ns), some (.int ((n : Int) + 1)), some (.int most), some (.int c), some (.lst (ts xs)), some (homesD h), some (.str x), some (.int v)], [some (.scr ns), some (.int ((n : Int) + 1)), some (.int most), some (.int c), some (.lst (ts xs)), some (homesD (putH h x u)), some (.str x), some (.int v)], rfl, ?_, putH h x u, some (.str x), some (.int v), rfl, ⟨putH_nd x u hnd, putH_le x hle (by omega)⟩, by omega⟩
      unfold homesD
      generalize ts xs = X at *
      generalize hmK h = K at *
      generalize hmV h = V at *
      simp [oMod_int hnz, eu, sz, pt])
  subst he
  rw [zipD_len, ts_len, List.length_map, hx, l1] at hlen
  refine ⟨h, ⟨hh.1, hh.2, by omega⟩, by omega, ?_⟩
  have tl : (ts xs).length = m := by rw [ts_len, hx]
  unfold f_thomes
  rw [runF_ap]
  show endR (s_thomes [some (.scr ns), some (.int ((n : Int) + 1)), some (.int most), none, none, none, none, none]) = _
  unfold s_thomes
  refine step_nx (en' := [some (.scr ns), some (.int ((n : Int) + 1)), some (.int most), some (.int c), none, none, none, none]) (by simp [c4]) ?_
  refine step_nx (en' := [some (.scr ns), some (.int ((n : Int) + 1)), some (.int most), some (.int c), some (.lst (ts xs)), none, none, none]) (by
    generalize ts xs = X at *
    simp [hd, oMod_int hz, em, e1]) ?_
  refine step_nx (en' := [some (.scr ns), some (.int ((n : Int) + 1)), some (.int most), some (.int c), some (.lst (ts xs)), some (.dct [] []), none, none]) rfl ?_
  refine step_nx (sFor_of (iZp_of (x := ts xs) (y := l.map .int) rfl (eCall3_of (eCall2_of rfl rfl c5) (eBi1_of rfl (by rw [oLen_lst, tl])) rfl l3)) q1) ?_
  rfl
/-! ### the drawn group -/
def s_tgroup : EvS := (sSeq (sAs 2 (eLst aNil))
  (sSeq (sFor (iZp (aCons (eVar 1) (aCons (eCall f_tnumbers (aCons (eVar 0) (aCons (eBi oLen (aCons (eVar 1) aNil)) (aCons (eC (.int 4)) aNil)))) aNil))) (setT [3, 4])
    (sIf (tV (eB2 oEq (eB2 oMod (eVar 4) (eC (.int 2))) (eC (.int 1))))
    (sApp 2 (eFl (eVar 3)))
    (sIf (tV (eB2 oEq (eVar 4) (eC (.int 2))))
    (sRev 2)
    sNil)))
  (sRet (eVar 2))))
def f_tgroup : List D → Rs D := runF 3 s_tgroup
@[simp] theorem sRev_ap (i : Nat) (en : En) : sRev i en = bnd (getL i en) fun l => .ok (.nx (en.set i (some (.lst l.reverse)))) := rfl
theorem tgroup_eq (c : Int) (xs : List Str) (hx : xs.length < 900) : ∃ g : List Str, (∀ x, x ∈ g → x ∈ xs) ∧ g.length ≤ xs.length ∧ f_tgroup [.int c, .lst (ts xs)] = .ok (.lst (ts g)) := by
  obtain ⟨l, l1, l2, l3⟩ := tnumbers_eq (c := c) (most := 4) (by decide) (by unfold B; exact Nat.lt_of_lt_of_le (by decide : 4 < 2 ^ 6) (Nat.pow_le_pow_right (by decide) (by decide))) (m := xs.length) (by omega)
  obtain ⟨en', q1, g, o3, o4, he, hg, hl⟩ := evFor_ix (set := setT [3, 4]) (body := (sIf (tV (eB2 oEq (eB2 oMod (eVar 4) (eC (.int 2))) (eC (.int 1))))
    (sApp 2 (eFl (eVar 3)))
    (sIf (tV (eB2 oEq (eVar 4) (eC (.int 2))))
    (sRev 2)
    sNil))) (P := fun i en => ∃ (g : List Str) (o3 o4 : Option D), en = [some (.int c), some (.lst (ts xs)), some (.lst (ts g)), o3, o4] ∧ (∀ x, x ∈ g → x ∈ xs) ∧ g.length ≤ i) (zipD (ts xs) (l.map .int)) 0
    [some (.int c), some (.lst (ts xs)), some (.lst (ts [])), none, none] ⟨[], none, none, rfl, (fun x hx => by cases hx), Nat.le_refl _⟩ (fun j d e hj ⟨g, o3, o4, he, hg, hl⟩ => by
      subst he
      obtain ⟨x, v, hxm, hv, hjx, rfl⟩ := zip_ts hj
      have sz : (ts g).length < sizeLine := by rw [ts_len, sizeLine_eq]; omega
      by_cases h1 : v.fmod 2 = 1
      · refine ⟨[some (.int c), some (.lst (ts xs)), some (.lst (ts g)), some (.str x), some (.int v)], [some (.int c), some (.lst (ts xs)), some (.lst (ts (g ++ [x]))), some (.str x), some (.int v)], rfl, ?_, g ++ [x], _, _, rfl, fun y hy => ?_, by simp; omega⟩
        · rw [← ts_app]
          generalize ts xs = X at *
          generalize ts g = Y at *
          simp [oMod_int, h1, sz]
        · rcases List.mem_append.mp hy with hy | hy
          · exact hg y hy
          · have : y = x := by simpa using hy
            rw [this]; exact hxm
      · by_cases h2 : v = 2
        · refine ⟨[some (.int c), some (.lst (ts xs)), some (.lst (ts g)), some (.str x), some (.int v)], [some (.int c), some (.lst (ts xs)), some (.lst (ts g.reverse)), some (.str x), some (.int v)], rfl, ?_, g.reverse, _, _, rfl, fun y hy => hg y (by simpa using hy), by simp; omega⟩
          have e : ts g.reverse = (ts g).reverse := by simp [ts]
          rw [e]
          generalize ts xs = X at *
          generalize ts g = Y at *
          simp [oMod_int, h1, h2]
        · refine ⟨[some (.int c), some (.lst (ts xs)), some (.lst (ts g)), some (.str x), some (.int v)], [some (.int c), some (.lst (ts xs)), some (.lst (ts g)), some (.str x), some (.int v)], rfl, ?_, g, _, _, rfl, hg, by omega⟩
          generalize ts xs = X at *
          generalize ts g = Y at *
          simp [oMod_int, h1, h2])
  subst he
  rw [zipD_len, ts_len, List.length_map, l1] at hl
  refine ⟨g, hg, by omega, ?_⟩
  have tl : (ts xs).length = xs.length := ts_len xs
  unfold f_tgroup
  rw [runF_ap]
  show endR (s_tgroup [some (.int c), some (.lst (ts xs)), none, none, none]) = _
  unfold s_tgroup
  refine step_nx (en' := [some (.int c), some (.lst (ts xs)), some (.lst (ts [])), none, none]) rfl ?_
  refine step_nx (sFor_of (iZp_of (x := ts xs) (y := l.map .int) rfl (eCall3_of rfl (eBi1_of rfl (by rw [oLen_lst, tl])) rfl l3)) q1) ?_
  rfl
end Co
end
noncomputable section
namespace Co
open PySem PySem.Spec PyProof.Rows L2 Pi
/-! ### beneath a road -/
/-- who goes along k -/
def ben (Rs : List Rd3) (k : Nat) : List Nat := (crs Rs.length).filter fun x => decide (k ∈ wy Rs x)
theorem ben_len (Rs : List Rd3) (k : Nat) : (ben Rs k).length ≤ Rs.length := filt_len _ _
theorem ben_mem {Rs : List Rd3} {k x : Nat} (h1 : 1 ≤ k) (hx : x ≤ Rs.length) : x ∈ ben Rs k ↔ k ∈ wy Rs x := by
  unfold ben
  rw [List.mem_filter, crs_mem, decide_eq_true_eq]
  refine ⟨fun h => h.2, fun h => ⟨⟨?_, hx⟩, h⟩⟩
  cases x with
  | zero =>
    have : wy Rs 0 = [] := by unfold wy; cases Rs.length <;> simp [wyF]
    rw [this] at h
    cases h
  | succ x => omega
def s_tben (e c : Nat) : EvS := (sSeq (sEx (eMeth c (f_troad_at e c) (eVar 0) (aCons (eVar 1) aNil)))
  (sRet (eLc [2] (iRn (aCons (eC (.int 1)) (aCons (eB2 oAdd (eBi oLen (aCons (eFld c 0 (eVar 0)) aNil)) (eC (.int 1))) aNil))) (set1 2) (tV (eB2 (oInS false) (eVar 1) (eCall f_wayf (aCons (eFld c 0 (eVar 0)) (aCons (eVar 2) aNil))))) (eFl (eVar 2)))))
def f_tben (e c : Nat) : List D → Rs D := runF 1 (s_tben e c)
theorem eFld_tree {c : Nat} {Rs : List Rd3} {r : En} : eFld c 0 (eVar 0) (some (tree c Rs) :: r) = .ok (.lst (Rs.map rd)) := by
  rw [eFld_ap, eVar_0, bnd_ok]
  show (if c = c then _ else _) = _
  rw [if_pos rfl]
  rfl
theorem tben_eq {e c : Nat} {Rs : List Rd3} (h : Tre Rs) {k : Nat} (h1 : 1 ≤ k) (h2 : k ≤ Rs.length) : f_tben e c [tree c Rs, .int k] = .ok (.lst (tn (ben Rs k))) := by
  obtain ⟨r, hr⟩ := rd_ex h1 h2
  have few := h.few
  have ra := troad_at_eq (e := e) (c := c) h1 hr
  have hl : (Rs.map rd).length = Rs.length := by simp
  have rg := oRng_crs (n := Rs.length) (by omega)
  have lc : evLc (set1 2) (tV (eB2 (oInS false) (eVar 1) (eCall f_wayf (aCons (eFld c 0 (eVar 0)) (aCons (eVar 2) aNil))))) (eFl (eVar 2)) [some (tree c Rs), some (.int k), none] (tn (crs Rs.length)) = .ok (tn (ben Rs k)) := by
    refine evLc_tn _ fun x hx => ⟨[some (tree c Rs), some (.int k), some (.int x)], rfl, ?_, fun _ => rfl⟩
    obtain ⟨x1, x2⟩ := crs_mem.mp hx
    exact tV_of (eB2_of rfl (eCall2_of eFld_tree rfl (wayf_eq few (h.wy x2).1 (h.wy x2).2)) (oIn_tn k (wy Rs x)))
  have len := ben_len Rs k
  have e2 := eLc_ap (vs := [2]) (en := [some (tree c Rs), some (.int k), none]) (evI := iRn (aCons (eC (.int 1)) (aCons (eB2 oAdd (eBi oLen (aCons (eFld c 0 (eVar 0)) aNil)) (eC (.int 1))) aNil))) (ds := tn (crs Rs.length)) (l := tn (ben Rs k)) (iRn2_of rfl (eB2_of (eBi1_of eFld_tree (by rw [oLen_lst, hl])) rfl rfl) rg) lc (by rw [tn_len]; omega)
  unfold f_tben
  rw [runF_ap]
  show endR (s_tben e c [some (tree c Rs), some (.int k), none]) = _
  unfold s_tben
  refine step_nx (en' := [some (tree c Rs), some (.int k), none]) (by
    rw [sEx_ap]
    have := eMeth1_of (c := c) (fn := f_troad_at e c) (o := eVar 0) (a := eVar 1) (en := [some (tree c Rs), some (.int k), none]) (l := [.lst (Rs.map rd)]) (x := .int k) rfl rfl ra
    rw [this, bnd_ok]) ?_
  rw [sRet_ap, e2]
  rfl
theorem tben_no {e c : Nat} {Rs : List Rd3} {k : Int} (hk : k < 1 ∨ (Rs.length : Int) < k) : f_tben e c [tree c Rs, .int k] = .error (.raise e) := by
  have ra := troad_at_no (e := e) (c := c) (Rs := Rs) hk
  unfold f_tben
  rw [runF_ap]
  show endR (s_tben e c [some (tree c Rs), some (.int k), none]) = _
  unfold s_tben
  have := eMeth1_of (c := c) (fn := f_troad_at e c) (o := eVar 0) (a := eVar 1) (en := [some (tree c Rs), some (.int k), none]) (l := [.lst (Rs.map rd)]) (x := .int k) rfl rfl ra
  rw [sSeq_ap, sEx_ap, this]
  rfl
/-! ### texts sorted -/
theorem leP_str (a b : Str) : leP (.str a) (.str b) = leS a b := congrFun (congrFun (PySem.W.dataLe_str (fun x : Str => x)) a) b
theorem srtD_ts (xs : List Str) : srtD (ts xs) = ts (srtS xs) := (List.map_mergeSort (r := leS) (s := fun a b => leP (toP a) (toP b)) (f := D.str) (l := xs) (fun a _ b _ => (leP_str a b).symm)).symm
theorem toPL_ts (xs : List Str) : toPL (ts xs) = xs.map .str := by
  rw [toPL_map]
  unfold ts
  rw [List.map_map]
  rfl
theorem plL_ts (xs : List Str) (n : Nat) : plL (ts xs) n = true := by
  induction xs with
  | nil => rfl
  | cons x xs ih => show (pl (.str x) n && plL (ts xs) n) = true; rw [ih]; rfl
theorem oSrt_ts (xs : List Str) : oSrt [.lst (ts xs)] = some (.lst (ts (srtS xs))) := by
  have h2 : alkB (toPL (ts xs)) = true := by
    rw [toPL_ts]
    unfold alkB
    rw [List.all_eq_true]
    intro d hd
    rw [List.all_eq_true]
    intro d' hd'
    obtain ⟨a, _, rfl⟩ := List.mem_map.mp hd
    obtain ⟨b, _, rfl⟩ := List.mem_map.mp hd'
    simp [PySem.W.alike]
  have h3 : srtB (toPL (ts xs)) = true := by
    rw [toPL_ts]
    unfold srtB
    rw [Bool.or_eq_true]
    refine .inr (List.all_eq_true.mpr fun d hd => ?_)
    obtain ⟨a, _, rfl⟩ := List.mem_map.mp hd
    rfl
  show (if plL (ts xs) 39 = true ∧ alkB (toPL (ts xs)) = true ∧ srtB (toPL (ts xs)) = true then some (D.lst (srtD (ts xs))) else none) = _
  rw [if_pos ⟨plL_ts xs 39, h2, h3⟩, srtD_ts]
/-! ### comprehensions over texts -/
theorem evLc_ts {set : En → D → Option En} {t : En → Rs Bool} {e : EvE} {enb : En} {p : Str → Bool} : ∀ l : List Str, (∀ k, k ∈ l → ∃ en1, set enb (.str k) = some en1 ∧ t en1 = .ok (p k) ∧ (p k = true → e en1 = .ok (.str k))) →
    evLc set t e enb (ts l) = .ok (ts (l.filter p))
  | [], _ => rfl
  | k :: l, h => by
    obtain ⟨en1, h1, h2, h3⟩ := h k List.mem_cons_self
    have ih := evLc_ts l fun x hx => h x (List.mem_cons_of_mem _ hx)
    show bnd (ofO (set enb (.str k))) _ = _
    rw [h1, ofO_some, bnd_ok, h2, bnd_ok]
    cases hp : p k with
    | true =>
      rw [if_pos rfl, h3 hp, bnd_ok, List.filter_cons_of_pos hp]
      show bnd (evLc set t e enb (ts l)) _ = _
      rw [ih]
      rfl
    | false =>
      rw [if_neg (by simp), List.filter_cons_of_neg (by simp [hp])]
      exact ih
theorem hmK_kD (h : Hms) : (hmK h).map kD = ts (h.map (·.1)) := by
  unfold hmK ts
  rw [List.map_map, List.map_map]
  rfl
theorem eLcK_of {vs : List Nat} {i : Nat} {set : En → D → Option En} {t : En → Rs Bool} {e : EvE} {en : En} {ks : List Key} {l0 l : List D} (h1 : Pi.getD i en = .ok (ks, l0)) (h2 : evLc set t e (wipE vs en) (ks.map kD) = .ok l) (h3 : l.length < 1000000) : eLcK vs i set t e en = .ok (.lst l) := by
  have h4 : l.length ≤ sizeLine := by rw [sizeLine_eq]; omega
  show bnd (Pi.getD i en) _ = _
  rw [h1, bnd_ok]
  show bnd (noR (evLc set t e (wipE vs en) (ks.map kD))) _ = _
  rw [h2]
  show (if l.length ≤ sizeLine then _ else _) = _
  rw [if_pos h4]
/-! ### who uses a road -/
def usr (Rs : List Rd3) (h : Hms) (k : Nat) : List Str := (h.map (·.1)).filter fun x => decide (home h x ∈ ben Rs k)
def s_users (e c : Nat) : EvS := (sSeq (sAs 3 (eMeth c (f_tben e c) (eVar 0) (aCons (eVar 2) aNil)))
  (sRet (eBi oSrt (aCons (eLcK [4] 1 (set1 4) (tV (eB2 (oInS false) (eB2 oDG (eVar 1) (eVar 4)) (eVar 3))) (eFl (eVar 4))) aNil))))
def f_users (e c : Nat) : List D → Rs D := runF 2 (s_users e c)
theorem users_eq {e c : Nat} {Rs : List Rd3} (h : Tre Rs) {hm : Hms} (hh : Hm Rs.length hm) {k : Nat} (h1 : 1 ≤ k) (h2 : k ≤ Rs.length) : f_users e c [tree c Rs, homesD hm, .int k] = .ok (.lst (ts (srtS (usr Rs hm k)))) := by
  have be := tben_eq (e := e) (c := c) h h1 h2
  have few := hh.few
  have lc : evLc (set1 4) (tV (eB2 (oInS false) (eB2 oDG (eVar 1) (eVar 4)) (eVar 3))) (eFl (eVar 4)) (wipE [4] [some (tree c Rs), some (homesD hm), some (.int k), some (.lst (tn (ben Rs k))), none]) ((hmK hm).map kD) = .ok (ts (usr Rs hm k)) := by
    rw [hmK_kD]
    refine evLc_ts _ fun x hx => ⟨[some (tree c Rs), some (homesD hm), some (.int k), some (.lst (tn (ben Rs k))), some (.str x)], rfl, ?_, fun _ => rfl⟩
    exact tV_of (eB2_of (eB2_of rfl rfl (oDG_hm hx)) rfl (oIn_tn (home hm x) (ben Rs k)))
  have len : (ts (usr Rs hm k)).length < 1000000 := by
    rw [ts_len]
    have : (usr Rs hm k).length ≤ (hm.map (·.1)).length := List.length_filter_le _ _
    rw [List.length_map] at this
    omega
  unfold f_users
  rw [runF_ap]
  show endR (s_users e c [some (tree c Rs), some (homesD hm), some (.int k), none, none]) = _
  unfold s_users
  refine step_nx (en' := [some (tree c Rs), some (homesD hm), some (.int k), some (.lst (tn (ben Rs k))), none]) (sAs_of (eMeth1_of (l := [.lst (Rs.map rd)]) rfl rfl be)) ?_
  rw [sRet_ap, eBi1_of (eLcK_of (ks := hmK hm) (l0 := hmV hm) rfl lc len) (oSrt_ts _)]
  rfl
theorem users_no {e c : Nat} {Rs : List Rd3} {hm : D} {k : Int} (hk : k < 1 ∨ (Rs.length : Int) < k) : f_users e c [tree c Rs, hm, .int k] = .error (.raise e) := by
  have be := tben_no (e := e) (c := c) (Rs := Rs) hk
  unfold f_users
  rw [runF_ap]
  show endR (s_users e c [some (tree c Rs), some hm, some (.int k), none, none]) = _
  unfold s_users
  have := eMeth1_of (c := c) (fn := f_tben e c) (o := eVar 0) (a := eVar 2) (en := [some (tree c Rs), some hm, some (.int k), none, none]) (l := [.lst (Rs.map rd)]) (x := .int k) rfl rfl be
  rw [sSeq_ap, sAs_ap, this]
  rfl
/-! ### a for that carries one thing on -/
theorem evFor_fold {α β γ : Type} {set : En → D → Option En} {body : EvS} (mk : β → γ → En) (f : β → α → β) (q : α → D) (I : β → Prop) : ∀ (l : List α) (s : β) (o : γ), I s → (∀ s a o, a ∈ l → I s → I (f s a) ∧ ∃ en1, set (mk s o) (q a) = some en1 ∧ ∃ o', body en1 = .ok (.nx (mk (f s a) o'))) →
    ∃ o', evFor set body (l.map q) (mk s o) = .ok (.nx (mk (l.foldl f s) o')) ∧ I (l.foldl f s)
  | [], s, o, h, _ => ⟨o, rfl, h⟩
  | a :: l, s, o, h, hb => by
    obtain ⟨h1, en1, h2, o1, h3⟩ := hb s a o List.mem_cons_self h
    obtain ⟨o', q1, q2⟩ := evFor_fold mk f q I l (f s a) o1 h1 fun s x o hx => hb s x o (List.mem_cons_of_mem _ hx)
    refine ⟨o', ?_, q2⟩
    show bnd (ofO (set (mk s o) (q a))) _ = _
    rw [h2, ofO_some, bnd_ok, h3, bnd_ok]
    exact q1
/-! ### roads found -/
def addN (K : List Nat) (k : Nat) : List Nat := if k ∈ K then K else K ++ [k]
def fdK (K : List Nat) : List Key := K.map fun k : Nat => Sum.inl (k : Int)
def fdD (K : List Nat) : D := .dct (fdK K) (K.map fun _ => .bl true)
theorem kIn_fd (K : List Nat) (k : Nat) : kIn (fdK K) (.inl (k : Int)) = decide (k ∈ K) := by
  induction K with
  | nil => rfl
  | cons x K ih =>
    show kIn (Sum.inl (x : Int) :: fdK K) _ = _
    rw [kIn_cons, ih]
    by_cases e : x = k
    · simp [e]
    · have e' : ¬ k = x := fun z => e z.symm
      have e2 : ¬ ((x : Int) = (k : Int)) := by omega
      simp [e', e2]
theorem dSet_fd (K : List Nat) (k : Key) : dSet (fdK K) (K.map fun _ => .bl true) k (.bl true) = K.map fun _ => .bl true := by
  induction K with
  | nil => rfl
  | cons x K ih =>
    show (if (Sum.inl (x : Int) : Key) = k then D.bl true else .bl true) :: dSet (fdK K) (K.map fun _ => .bl true) k (.bl true) = _
    rw [ih]
    simp
theorem dPut_fd (K : List Nat) (k : Nat) : dPut (fdK K) (K.map fun _ => .bl true) (.inl (k : Int)) (.bl true) = (fdK (addN K k), (addN K k).map fun _ => .bl true) := by
  unfold dPut addN
  rw [kIn_fd]
  by_cases e : k ∈ K
  · rw [if_pos (by simpa using e), if_pos e, dSet_fd]
  · rw [if_neg (by simpa using e), if_neg e]
    simp [fdK]
theorem addN_mem {K : List Nat} {k x : Nat} : x ∈ addN K k ↔ x ∈ K ∨ x = k := by
  unfold addN
  split
  · rename_i h
    exact ⟨.inl, fun z => z.elim id fun e => e ▸ h⟩
  · simp
theorem addN_nd {K : List Nat} (h : K.Nodup) (k : Nat) : (addN K k).Nodup := by
  unfold addN
  split
  · exact h
  · rename_i hk
    refine List.nodup_append.mpr ⟨h, by simp, fun a ha b hb => ?_⟩
    have : b = k := by simpa using hb
    subst this
    intro e
    subst e
    exact hk ha
theorem foldN_mem {l : List Nat} : ∀ {K : List Nat} {x : Nat}, x ∈ l.foldl addN K ↔ x ∈ K ∨ x ∈ l := by
  induction l with
  | nil => simp
  | cons a l ih =>
    intro K x
    rw [List.foldl_cons, ih, addN_mem, List.mem_cons, or_assoc]
theorem foldN_nd {l : List Nat} : ∀ {K : List Nat}, K.Nodup → (l.foldl addN K).Nodup := by
  induction l with
  | nil => exact id
  | cons a l ih => exact fun h => ih (addN_nd h a)
theorem fd_len (K : List Nat) : (fdK K).length = K.length := by simp [fdK]
theorem intsK_fd (K : List Nat) : intsK (fdK K) = some (K.map fun k : Nat => (k : Int)) := by
  induction K with
  | nil => rfl
  | cons x K ih => show (intsK (fdK K)).map _ = _; rw [ih]; rfl
/-- the crossings in K, rising -/
theorem crs_pw (n : Nat) : (crs n).Pairwise (· < ·) := by
  unfold crs
  rw [List.pairwise_map]
  exact List.pairwise_lt_range.imp fun h => by omega
theorem crs_nd (n : Nat) : (crs n).Nodup := (crs_pw n).imp fun h => Nat.ne_of_lt h
theorem in_crs {K : List Nat} {n : Nat} (nd : K.Nodup) (hk : ∀ k, k ∈ K → 1 ≤ k ∧ k ≤ n) : ((crs n).filter fun k => decide (k ∈ K)).Perm K := by
  refine (List.perm_ext_iff_of_nodup ((crs_nd n).filter _) nd).mpr fun k => ?_
  rw [List.mem_filter, decide_eq_true_eq, crs_mem]
  exact ⟨fun h => h.2, fun h => ⟨hk k h, h⟩⟩
theorem oSrtI_fd {K : List Nat} {n : Nat} (hn : n ≤ 40) (nd : K.Nodup) (hk : ∀ k, k ∈ K → 1 ≤ k ∧ k ≤ n) : oSrtI [fdD K] = some (.lst (tn ((crs n).filter fun k => decide (k ∈ K)))) := by
  have p := in_crs nd hk
  have len := p.length_eq
  have fl := filt_len (fun k => decide (k ∈ K)) n
  have hl : (K.map fun k : Nat => (k : Int)).length < 64 := by rw [List.length_map]; omega
  have e : srtI (K.map fun k : Nat => (k : Int)) = ((crs n).filter fun k => decide (k ∈ K)).map fun k : Nat => (k : Int) := by
    refine (srtI_of (p.map _) ?_).symm
    rw [List.pairwise_map]
    exact ((crs_pw n).filter _).imp fun h => by omega
  show (match intsK (fdK K) with
    | some xs => if xs.length < 64 then some (D.lst ((srtI xs).map .int)) else none
    | none => none) = _
  rw [intsK_fd]
  show (if (K.map fun k : Nat => (k : Int)).length < 64 then _ else _) = _
  rw [if_pos hl, e]
  unfold tn
  rw [List.map_map]
  rfl
/-- the roads a group needs -/
def need (Rs : List Rd3) (h : Hms) (g : List Str) : List Nat := (crs Rs.length).filter fun k => g.any fun x => decide (k ∈ wy Rs (home h x))
def s_needed (e c : Nat) : EvS := (sSeq (sAs 3 (eC (.dct [] [])))
  (sSeq (sFor (iL (eVar 2)) (set1 4)
    (sFor (iL (eMeth c (f_tway e c) (eVar 0) (aCons (eB2 oDG (eVar 1) (eVar 4)) aNil))) (set1 5)
    (sDSub 3 (eVar 5) (eC (.bl true)))))
  (sRet (eBi oSrtI (aCons (eVar 3) aNil)))))
def f_needed (e c : Nat) : List D → Rs D := runF 3 (s_needed e c)
def grow (Rs : List Rd3) (h : Hms) (K : List Nat) (x : Str) : List Nat := (wy Rs (home h x)).foldl addN K
theorem growAll_mem {Rs : List Rd3} {h : Hms} : ∀ {g : List Str} {K : List Nat} {k : Nat}, k ∈ g.foldl (grow Rs h) K ↔ k ∈ K ∨ ∃ x, x ∈ g ∧ k ∈ wy Rs (home h x)
  | [], K, k => by simp
  | x :: g, K, k => by
    rw [List.foldl_cons, growAll_mem]
    unfold grow
    rw [foldN_mem, or_assoc]
    simp
theorem iL_of {ev : EvE} {en : En} {l : List D} (h : ev en = .ok (.lst l)) : iL ev en = .ok l := by
  rw [iL_ap, h, bnd_ok]
  rfl
theorem home_le {n : Nat} {h : Hms} (hh : Hm n h) {x : Str} (hx : x ∈ h.map (·.1)) : home h x ≤ n := hh.le _ (home_mem hx)
theorem needed_eq {e c : Nat} {Rs : List Rd3} (h : Tre Rs) {hm : Hms} (hh : Hm Rs.length hm) {g : List Str} (hg : ∀ x, x ∈ g → x ∈ hm.map (·.1)) : f_needed e c [tree c Rs, homesD hm, .lst (ts g)] = .ok (.lst (tn (need Rs hm g))) := by
  let I : List Nat → Prop := fun K => K.Nodup ∧ ∀ k, k ∈ K → 1 ≤ k ∧ k ≤ Rs.length
  have few := h.few
  have klen : ∀ K, I K → K.length ≤ 40 := fun K hK => by
    have := (in_crs hK.1 hK.2).length_eq
    have fl := filt_len (fun k => decide (k ∈ K)) Rs.length
    omega
  obtain ⟨⟨o4, o5⟩, q1, q2⟩ := evFor_fold (α := Str) (β := List Nat) (γ := Option D × Option D) (set := set1 4) (body := (sFor (iL (eMeth c (f_tway e c) (eVar 0) (aCons (eB2 oDG (eVar 1) (eVar 4)) aNil))) (set1 5)
    (sDSub 3 (eVar 5) (eC (.bl true))))) (fun s o => [some (tree c Rs), some (homesD hm), some (.lst (ts g)), some (fdD s), o.1, o.2])
    (grow Rs hm) D.str I g [] (none, none) ⟨List.nodup_nil, fun k hk => by cases hk⟩ (fun s x o hx hI => by
      have hxm := hg x hx
      have hle := home_le hh hxm
      have tw := tway_eq (e := e) (c := c) h hle
      obtain ⟨w1, w2⟩ := h.wy hle
      have rng := w1.rng
      have gI : ∀ (l s : List Nat), (∀ k, k ∈ l → 1 ≤ k ∧ k ≤ Rs.length) → I s → I (l.foldl addN s) := fun l s hl hs => ⟨foldN_nd hs.1, fun k hk => (foldN_mem.mp hk).elim (hs.2 k) (hl k)⟩
      refine ⟨gI _ _ rng hI, _, rfl, ?_⟩
      obtain ⟨o5', z1, _⟩ := evFor_fold (α := Nat) (β := List Nat) (γ := Option D) (set := set1 5) (body := sDSub 3 (eVar 5) (eC (.bl true))) (fun s o => [some (tree c Rs), some (homesD hm), some (.lst (ts g)), some (fdD s), some (.str x), o])
        addN (fun k : Nat => D.int k) I (wy Rs (home hm x)) s o.2 hI (fun s k o hk hs => by
          refine ⟨gI [k] s (fun y hy => by have : y = k := by simpa using hy
                                           rw [this]; exact rng k hk) hs, _, rfl, some (.int k), ?_⟩
          have sz : (fdK s).length < sizeLine := by rw [fd_len, sizeLine_eq]; have := klen s hs; omega
          have pt := dPut_fd s k
          unfold fdD
          generalize fdK s = K at *
          generalize s.map (fun _ => D.bl true) = V at *
          simp [sz, pt])
      exact ⟨(some (.str x), o5'), sFor_of (iL_of (eMeth1_of (l := [.lst (Rs.map rd)]) rfl (eB2_of rfl rfl (oDG_hm hxm)) tw)) z1⟩)
  have e2 : need Rs hm g = (crs Rs.length).filter fun k => decide (k ∈ g.foldl (grow Rs hm) []) := by
    unfold need
    apply List.filter_congr
    intro k _
    rw [Bool.eq_iff_iff, List.any_eq_true, decide_eq_true_eq, growAll_mem]
    simp
  unfold f_needed
  rw [runF_ap]
  show endR (s_needed e c [some (tree c Rs), some (homesD hm), some (.lst (ts g)), none, none, none]) = _
  unfold s_needed
  refine step_nx (en' := [some (tree c Rs), some (homesD hm), some (.lst (ts g)), some (fdD []), none, none]) rfl ?_
  refine step_nx (sFor_of (iL_of rfl) q1) ?_
  rw [sRet_ap, eBi1_of rfl (oSrtI_fd (n := Rs.length) few q2.1 q2.2), e2]
  rfl
end Co
end
noncomputable section
namespace Co
open PySem PySem.Spec PyProof.Rows L2 Pi
/-! ### a dict that holds F of each of some texts -/
def skK (s : List Str) : List Key := s.map .inr
def fD (s : List Str) (F : Str → D) : D := .dct (skK s) (s.map F)
def addS (s : List Str) (x : Str) : List Str := if x ∈ s then s else s ++ [x]
theorem kIn_sk (s : List Str) (x : Str) : kIn (skK s) (.inr x) = decide (x ∈ s) := by
  induction s with
  | nil => rfl
  | cons p s ih =>
    show kIn (Sum.inr p :: skK s) (.inr x) = _
    rw [kIn_cons, ih]
    by_cases e : p = x
    · simp [e]
    · have e' : ¬ x = p := fun z => e z.symm
      simp [e, e']
theorem dSet_sk (s : List Str) (F : Str → D) (x : Str) : dSet (skK s) (s.map F) (.inr x) (F x) = s.map F := by
  induction s with
  | nil => rfl
  | cons p s ih =>
    show (if (Sum.inr p : Key) = .inr x then F x else F p) :: dSet (skK s) (s.map F) (.inr x) (F x) = _
    rw [ih]
    by_cases e : p = x
    · simp [e]
    · simp [e]
theorem dPut_sk (s : List Str) (F : Str → D) (x : Str) : dPut (skK s) (s.map F) (.inr x) (F x) = (skK (addS s x), (addS s x).map F) := by
  unfold dPut addS
  rw [kIn_sk]
  by_cases e : x ∈ s
  · rw [if_pos (by simpa using e), if_pos e, dSet_sk]
  · rw [if_neg (by simpa using e), if_neg e]
    simp [skK]
theorem dGet_sk {s : List Str} (F : Str → D) {x : Str} (hx : x ∈ s) : dGet (skK s) (s.map F) (.inr x) = some (F x) := by
  induction s with
  | nil => cases hx
  | cons p s ih =>
    show (if (Sum.inr p : Key) = .inr x then some (F p) else dGet (skK s) (s.map F) (.inr x)) = _
    by_cases e : p = x
    · rw [if_pos (by rw [e]), e]
    · rw [if_neg (fun z => e (Sum.inr.inj z))]
      rcases List.mem_cons.mp hx with z | z
      · exact absurd z.symm e
      · exact ih z
theorem oDG_fD {s : List Str} (F : Str → D) {x : Str} (hx : x ∈ s) : oDG (fD s F) (.str x) = some (F x) := dGet_sk F hx
theorem skK_kD (s : List Str) : (skK s).map kD = ts s := by
  unfold skK ts
  rw [List.map_map]
  rfl
theorem skK_len (s : List Str) : (skK s).length = s.length := by simp [skK]
theorem addS_fold {l : List Str} : ∀ {s : List Str}, (s ++ l).Nodup → l.foldl addS s = s ++ l := by
  induction l with
  | nil => intro s _; simp
  | cons x l ih =>
    intro s nd
    have hx : x ∉ s := fun h => (List.nodup_append.mp nd).2.2 x h x List.mem_cons_self rfl
    rw [List.foldl_cons]
    have : addS s x = s ++ [x] := by unfold addS; rw [if_neg hx]
    rw [this, ih (by simpa using nd)]
    simp
theorem addS_mem {s : List Str} {x y : Str} : y ∈ addS s x ↔ y ∈ s ∨ y = x := by
  unfold addS
  split
  · rename_i h
    exact ⟨.inl, fun z => z.elim id fun e => e ▸ h⟩
  · simp
theorem addS_len (s : List Str) (x : Str) : (addS s x).length ≤ s.length + 1 := by
  unfold addS
  split <;> simp
theorem addS_nd {s : List Str} (nd : s.Nodup) (x : Str) : (addS s x).Nodup := by
  unfold addS
  split
  · exact nd
  · rename_i hx
    refine List.nodup_append.mpr ⟨nd, by simp, fun a ha b hb => ?_⟩
    have : b = x := by simpa using hb
    subst this
    intro e
    subst e
    exact hx ha
theorem sub_len {s l : List Str} (nd : s.Nodup) (ndl : l.Nodup) (sub : ∀ x, x ∈ s → x ∈ l) : s.length ≤ l.length := by
  have p : (l.filter fun x => decide (x ∈ s)).Perm s := (List.perm_ext_iff_of_nodup (ndl.filter _) nd).mpr fun k => by
    rw [List.mem_filter, decide_eq_true_eq]
    exact ⟨fun h => h.2, fun h => ⟨sub k h, h⟩⟩
  rw [← p.length_eq]
  exact List.length_filter_le _ _
/-! ### equal all the way down -/
theorem eqB_str (n : Nat) (x : Str) : eqB n (.str x) (.str x) = true := by cases n <;> simp [eqB]
theorem eqB_int (n : Nat) (x : Int) : eqB n (.int x) (.int x) = true := by cases n <;> simp [eqB]
theorem eqB_bl (n : Nat) (x : Bool) : eqB n (.bl x) (.bl x) = true := by cases n <;> simp [eqB]
theorem eqBL_map {α : Type} (n : Nat) (q : α → D) (hq : ∀ a, eqB n (q a) (q a) = true) : ∀ l : List α, eqBL n (l.map q) (l.map q) = true
  | [] => by simp [eqBL]
  | a :: l => by
    show eqBL n (q a :: l.map q) (q a :: l.map q) = true
    rw [eqBL, hq a, eqBL_map n q hq l]
    rfl
theorem eqB_ts (n : Nat) (xs : List Str) : eqB (n + 1) (.lst (ts xs)) (.lst (ts xs)) = true := by
  rw [eqB]
  exact eqBL_map n D.str (eqB_str n) xs
theorem eqBD_of {n : Nat} {ks' : List Key} {m : List D} : ∀ (ks : List Key) (l : List D), ks.length = l.length → (∀ p, p ∈ ks.zip l → ∃ y, dGet ks' m p.1 = some y ∧ eqB n p.2 y = true) → eqBD n ks l ks' m = true
  | [], [], _, _ => by simp [eqBD]
  | [], _ :: _, h, _ => by cases h
  | _ :: _, [], h, _ => by cases h
  | k :: ks, x :: l, h, hp => by
    obtain ⟨y, e1, e2⟩ := hp (k, x) List.mem_cons_self
    rw [eqBD, e1]
    show (eqB n x y && eqBD n ks l ks' m) = true
    rw [e2, eqBD_of ks l (Nat.succ.inj h) fun p hp' => hp p (List.mem_cons_of_mem _ hp')]
    rfl
theorem home_of {h : Hms} (nd : (h.map (·.1)).Nodup) : ∀ p, p ∈ h → home h p.1 = p.2 := by
  induction h with
  | nil => intro p hp; cases hp
  | cons q h ih =>
    intro p hp
    rcases List.mem_cons.mp hp with e | hp
    · subst e
      simp [home]
    · have nd' := List.nodup_cons.mp nd
      have ne : ¬ q.1 = p.1 := fun e => nd'.1 (by show q.1 ∈ _; rw [e]; exact List.mem_map_of_mem hp)
      have : home (q :: h) p.1 = home h p.1 := by simp [home, List.find?_cons, ne]
      rw [this]
      exact ih nd'.2 p hp
theorem homes_zip (h : Hms) : (hmK h).zip (hmV h) = h.map fun p => (Sum.inr p.1, D.int p.2) := by
  unfold hmK hmV
  induction h with
  | nil => rfl
  | cons p h ih => simp [ih]
theorem eqBD_hm {n : Nat} {h : Hms} (nd : (h.map (·.1)).Nodup) : eqBD n (hmK h) (hmV h) (hmK h) (hmV h) = true := by
  refine eqBD_of _ _ (by simp [hmK, hmV]) fun p hp => ?_
  rw [homes_zip] at hp
  obtain ⟨q, hq, rfl⟩ := List.mem_map.mp hp
  refine ⟨.int (home h q.1), dGet_hm (List.mem_map_of_mem hq), ?_⟩
  rw [home_of nd q hq]
  exact eqB_int n _
theorem eqB_hm {n : Nat} {h : Hms} (nd : (h.map (·.1)).Nodup) : eqB (n + 1) (homesD h) (homesD h) = true := by
  unfold homesD
  rw [eqB, eqBD_hm nd]
  simp
theorem oEqW_hm {h : Hms} (nd : (h.map (·.1)).Nodup) : oEqW (homesD h) (homesD h) = some (.bl true) := by
  unfold oEqW
  rw [if_pos ⟨rfl, eqB_hm nd⟩]
theorem oNeW_hg {h : Hms} (nd : (h.map (·.1)).Nodup) (g : List Str) : oNeW (.tup [homesD h, .lst (ts g)]) (.tup [homesD h, .lst (ts g)]) = some (.bl false) := by
  show (if eqBL 39 [homesD h, .lst (ts g)] [homesD h, .lst (ts g)] = true then some (D.bl false) else none) = _
  have : eqBL 39 [homesD h, .lst (ts g)] [homesD h, .lst (ts g)] = true := by
    rw [eqBL, eqB_hm nd, eqBL, eqB_ts, eqBL]
    rfl
  rw [if_pos this]
theorem oNe_self {d : D} (h : pl d 60 = true) : oNe d d = some (.bl false) := by
  unfold oNe
  rw [if_pos ⟨h, h⟩, eqv_self]
  rfl
theorem pl_ts (xs : List Str) : pl (.lst (ts xs)) 60 = true := by rw [pl]; exact plL_ts xs 59
theorem pl_tn (xs : List Nat) : pl (.lst (tn xs)) 60 = true := by rw [pl]; exact plL_tn xs 59
theorem oListD_hm (h : Hms) : oListD [homesD h] = some (.lst (ts (h.map (·.1)))) := by
  show some (D.lst ((hmK h).map kD)) = _
  rw [hmK_kD]
theorem oDict_hm (h : Hms) : oDict [homesD h] = some (homesD h) := rfl
/-! ### a comprehension that keeps all -/
theorem evLc_map {α : Type} {set : En → D → Option En} {e : EvE} {enb : En} {q r : α → D} : ∀ l : List α, (∀ a, a ∈ l → ∃ en1, set enb (q a) = some en1 ∧ e en1 = .ok (r a)) → evLc set (fun _ => .ok true) e enb (l.map q) = .ok (l.map r)
  | [], _ => rfl
  | a :: l, h => by
    obtain ⟨en1, h1, h2⟩ := h a List.mem_cons_self
    have ih := evLc_map l fun x hx => h x (List.mem_cons_of_mem _ hx)
    show bnd (ofO (set enb (q a))) _ = _
    rw [h1, ofO_some, bnd_ok, bnd_ok, if_pos rfl, h2, bnd_ok]
    show bnd (evLc set (fun _ => .ok true) e enb (l.map q)) _ = _
    rw [ih]
    rfl
theorem oIn_bl {α : Type} (p : α → Bool) (l : List α) : oInS false (.bl true) (.lst (l.map fun a => .bl (p a))) = some (.bl (l.any p)) := by
  have h1 : plL (l.map fun a => D.bl (p a)) 40 = true := by
    induction l with
    | nil => rfl
    | cons a l ih => show (pl (.bl (p a)) 40 && plL (l.map fun a => D.bl (p a)) 40) = true; rw [ih]; rfl
  show (if pl (.bl true) 40 = true ∧ plL (l.map fun a => D.bl (p a)) 40 = true then some (D.bl (xor false ((l.map fun a => D.bl (p a)).any fun e => PyData.eqv (toP e) (toP (.bl true))))) else none) = _
  rw [if_pos ⟨rfl, h1⟩, Bool.false_xor, List.any_map]
  congr 2
  apply congrArg (fun f => l.any f)
  funext a
  show (p a == true) = p a
  cases p a <;> rfl
theorem sDSub_of {i : Nat} {ek ev : EvE} {en : En} {ks : List Key} {l : List D} {d kd : D} {k : Key} (h1 : Pi.getD i en = .ok (ks, l)) (h2 : ev en = .ok d) (h3 : ek en = .ok kd) (h4 : dK kd = some k) (h5 : ks.length < 1000000) : sDSub i ek ev en = .ok (.nx (en.set i (some (.dct (dPut ks l k d).1 (dPut ks l k d).2)))) := by
  have h6 : ks.length < sizeLine := by rw [sizeLine_eq]; omega
  rw [sDSub_ap, h1, bnd_ok, h2, bnd_ok, h3, bnd_ok, h4, ofO_some, bnd_ok, if_pos h6]
theorem sForK_of {i : Nat} {set : En → D → Option En} {b : EvS} {en : En} {ks : List Key} {l : List D} {fl : Fl} (h1 : Pi.getD i en = .ok (ks, l)) (q : evFor set b (ks.map kD) en = .ok fl) : sForK i set b en = .ok fl := by
  show bnd (Pi.getD i en) _ = _
  rw [h1, bnd_ok]
  show noR (evFor set b (ks.map kD) en) = _
  rw [q]
  rfl
end Co
end
noncomputable section
namespace Co
open PySem PySem.Spec PyProof.Rows L2 Pi
/-! ### fractions as numbers -/
def rD (r : Rat) : D := .tup [.int r.num, .int (r.den : Nat)]
theorem fr_rD {t b : Int} (hb : b ≠ 0) : fr t b = rD (Rat.divInt t b) := by
  have h1 := across (t := t) hb
  have h2 := de_pos (t := t) hb
  have h3 := cop (t := t) hb
  unfold fr rD
  generalize nu t b = p at *
  obtain ⟨d, hd⟩ : ∃ d : Nat, de t b = d := ⟨(de t b).toNat, by omega⟩
  rw [hd] at h1 h2 h3 ⊢
  have nz : d ≠ 0 := by omega
  have red : p.natAbs.Coprime d := h3
  have e1 : (⟨p, d, nz, red⟩ : Rat) = Rat.divInt p d := Rat.mk_eq_divInt
  have e2 : Rat.divInt p d = Rat.divInt t b := (Rat.divInt_eq_divInt_iff (by omega) hb).mpr h1
  rw [← e2, ← e1]
theorem add_div (a b : Rat) : a + b = Rat.divInt (a.num * (b.den : Int) + b.num * (a.den : Int)) ((a.den : Int) * (b.den : Int)) := by
  rw [Rat.add_def', ← Rat.divInt_ofNat]
  rfl
theorem den_pos (a : Rat) : 0 < (a.den : Int) := by have := a.den_pos; omega
theorem den_mul_pos (a b : Rat) : 0 < (a.den : Int) * (b.den : Int) := Int.mul_pos (den_pos a) (den_pos b)
/-- tops below 2 ^ m, bottoms below 2 ^ n -/
structure Rb (m n : Nat) (r : Rat) : Prop where
  num : B m r.num
  den : B n (r.den : Int)
theorem num_of {t b : Int} (hb : b ≠ 0) : (Rat.divInt t b).num = nu t b ∧ ((Rat.divInt t b).den : Int) = de t b := by
  have := fr_rD (t := t) hb
  unfold fr rD at this
  injection this with this
  injection this with h1 h2
  injection h2 with h2 _
  injection h1 with h1
  injection h2 with h2
  exact ⟨h1.symm, h2.symm⟩
theorem Rb.add {m n m' n' k : Nat} {a b : Rat} (ha : Rb m n a) (hb : Rb m' n' b) (h1 : m + n' ≤ k) (h2 : m' + n ≤ k) : Rb (k + 1) (n + n') (a + b) := by
  have nz : (a.den : Int) * (b.den : Int) ≠ 0 := by have := den_mul_pos a b; omega
  obtain ⟨e1, e2⟩ := num_of (t := a.num * (b.den : Int) + b.num * (a.den : Int)) nz
  rw [add_div]
  refine ⟨?_, ?_⟩
  · rw [e1]
    exact (((ha.num.mul hb.den).mono h1).add ((hb.num.mul ha.den).mono h2)).le (nu_le nz)
  · rw [e2]
    exact (ha.den.mul hb.den).le (de_le nz)
theorem Rb.mono {m n m' n' : Nat} {a : Rat} (h : Rb m n a) (h1 : m ≤ m') (h2 : n ≤ n') : Rb m' n' a := ⟨h.num.mono h1, h.den.mono h2⟩
theorem Rb_0 : Rb 0 1 0 := ⟨by unfold B; decide, by unfold B; decide⟩
/-! ### the program's fractions, of more figures -/
theorem prt_ok8 {t b : Int} (hb : b ≠ 0) (h : B 8900 b) (i : Int) : divOk i (prt t b) = true := divOk_of (m := 8900) (prt_ne hb) (Nat.lt_of_le_of_lt (prt_le hb) h) (by decide) (by decide)
def s_ratioE (e : Nat) : EvS := (sSeq (sIf (tV (eB2 oEq (eVar 1) (eC (.int 0))))
    (sRai e)
    sNil)
  (sSeq (sAs 2 (eCall f_div (aCons (eVar 0) (aCons (eVar 1) aNil))))
  (sSeq (sIf (tV (eB2 oLt (eVar 1) (eC (.int 0))))
    (sAs 2 (eB2 oSub (eC (.int 0)) (eVar 2)))
    sNil)
  (sRet (eTup (aCons (eB2 oDiv (eVar 0) (eVar 2)) (aCons (eB2 oDiv (eVar 1) (eVar 2)) aNil)))))))
def f_ratioE (e : Nat) : List D → Rs D := runF 1 (s_ratioE e)
theorem ratio8 {e : Nat} {t b : Int} (hb : b ≠ 0) (h : B 8900 b) : f_ratioE e [.int t, .int b] = .ok (fr t b) := by
  have h1 := prt_ok8 (t := t) hb h t
  have h2 := prt_ok8 (t := t) hb h b
  unfold fr nu de
  unfold prt at h1 h2 ⊢
  by_cases hn : b < 0
  · rw [if_pos hn] at h1 h2 ⊢
    simp [f_ratioE, s_ratioE, hb, hn, div_eq, oDiv_int h1, oDiv_int h2]
  · rw [if_neg hn] at h1 h2 ⊢
    simp [f_ratioE, s_ratioE, hb, hn, div_eq, oDiv_int h1, oDiv_int h2]
theorem tlow8 {t b : Int} (ht : 0 ≤ t) (hb : 0 < b) (h : B 8900 b) : f_tlow [.int t, .int b] = .ok (fr t b) := by
  have h1 := prt_ok8 (t := t) (by omega) h t
  have h2 := prt_ok8 (t := t) (by omega) h b
  have hl := tlow_loop (.int t) (.int b) _ t b (Nat.le_refl _) ht (by omega)
  have ha : ((t.natAbs : Nat) : Int) = t := by omega
  unfold fr nu de
  unfold prt at h1 h2 ⊢
  rw [if_neg (by omega)] at h1 h2 ⊢
  simp [f_tlow, s_tlow, ha, hl, oDiv_int h1, oDiv_int h2]
def s_sumE (e : Nat) : EvS := (sRet (eCall (f_ratioE e) (aCons (eB2 oAdd (eFl (eB2 oMul (eB2 oIx (eVar 0) (eC (.int 0))) (eB2 oIx (eVar 1) (eC (.int 1))))) (eFl (eB2 oMul (eB2 oIx (eVar 1) (eC (.int 0))) (eB2 oIx (eVar 0) (eC (.int 1)))))) (aCons (eFl (eB2 oMul (eB2 oIx (eVar 0) (eC (.int 1))) (eB2 oIx (eVar 1) (eC (.int 1))))) aNil))))
def f_sumE (e : Nat) : List D → Rs D := runF 0 (s_sumE e)
theorem sumE_eq {e m n m' n' : Nat} {a b : Rat} (ha : Rb m n a) (hb : Rb m' n' b) (h : n + n' ≤ 8900) (h1 : m < 1000000) (h2 : m' < 1000000) : f_sumE e [rD a, rD b] = .ok (rD (a + b)) := by
  have nz : (a.den : Int) * (b.den : Int) ≠ 0 := by have := den_mul_pos a b; omega
  have k1 := ha.num.ok hb.den (by omega) (by omega)
  have k2 := hb.num.ok ha.den (by omega) (by omega)
  have k3 := ha.den.ok hb.den (by omega) (by omega)
  have r := ratio8 (e := e) (t := a.num * (b.den : Int) + b.num * (a.den : Int)) nz ((ha.den.mul hb.den).mono h)
  rw [fr_rD nz, ← add_div] at r
  unfold rD at r ⊢
  simp [f_sumE, s_sumE, oMul_int k1, oMul_int k2, oMul_int k3, r]
def s_tadd : EvS := (sRet (eCall f_tlow (aCons (eB2 oAdd (eFl (eB2 oMul (eB2 oIx (eVar 0) (eC (.int 0))) (eB2 oIx (eVar 1) (eC (.int 1))))) (eFl (eB2 oMul (eB2 oIx (eVar 1) (eC (.int 0))) (eB2 oIx (eVar 0) (eC (.int 1)))))) (aCons (eFl (eB2 oMul (eB2 oIx (eVar 0) (eC (.int 1))) (eB2 oIx (eVar 1) (eC (.int 1))))) aNil))))
def f_tadd : List D → Rs D := runF 0 s_tadd
theorem tadd_eq {m n m' n' : Nat} {a b : Rat} (ha : Rb m n a) (hb : Rb m' n' b) (h : n + n' ≤ 8900) (h1 : m < 1000000) (h2 : m' < 1000000) (p1 : 0 ≤ a.num) (p2 : 0 ≤ b.num) : f_tadd [rD a, rD b] = .ok (rD (a + b)) := by
  have pz := den_mul_pos a b
  have nz : (a.den : Int) * (b.den : Int) ≠ 0 := by omega
  have k1 := ha.num.ok hb.den (by omega) (by omega)
  have k2 := hb.num.ok ha.den (by omega) (by omega)
  have k3 := ha.den.ok hb.den (by omega) (by omega)
  have pt : 0 ≤ a.num * (b.den : Int) + b.num * (a.den : Int) := Int.add_nonneg (Int.mul_nonneg p1 (by have := den_pos b; omega)) (Int.mul_nonneg p2 (by have := den_pos a; omega))
  have r := tlow8 pt pz ((ha.den.mul hb.den).mono h)
  rw [fr_rD nz, ← add_div] at r
  unfold rD at r ⊢
  simp [f_tadd, s_tadd, oMul_int k1, oMul_int k2, oMul_int k3, r]
/-! ### sums -/
def rsum (l : List Rat) : Rat := l.foldl (· + ·) 0
theorem rsum_snoc (l : List Rat) (x : Rat) : rsum (l ++ [x]) = rsum l + x := by unfold rsum; rw [List.foldl_append]; rfl
theorem rsum_perm {l l' : List Rat} (h : l.Perm l') : rsum l = rsum l' := by
  unfold rsum
  exact h.foldl_eq' (fun x _ y _ z => by rw [Rat.add_assoc, Rat.add_comm x y, ← Rat.add_assoc]) 0
theorem snocInd {α : Type} {P : List α → Prop} (h0 : P []) (h1 : ∀ l x, P l → P (l ++ [x])) (l : List α) : P l := by
  have : ∀ l : List α, P l.reverse := fun l => by
    induction l with
    | nil => exact h0
    | cons x l ih => rw [List.reverse_cons]; exact h1 _ _ ih
  have := this l.reverse
  rwa [List.reverse_reverse] at this
theorem rsum_b {l : List Rat} (h : ∀ r, r ∈ l → Rb 210 210 r) : Rb (212 * l.length) (210 * l.length + 1) (rsum l) := by
  revert h
  refine snocInd (P := fun l => (∀ r, r ∈ l → Rb 210 210 r) → Rb (212 * l.length) (210 * l.length + 1) (rsum l)) (fun _ => Rb_0) (fun l x ih h => ?_) l
  rw [rsum_snoc, List.length_append]
  have h1 := ih fun r hr => h r (List.mem_append_left _ hr)
  have h2 := h x (by simp)
  exact (h1.add h2 (k := 212 * l.length + 211) (by omega) (by omega)).mono (by simp; omega) (by simp; omega)
theorem add_num {a b : Rat} (h1 : 0 ≤ a.num) (h2 : 0 ≤ b.num) : 0 ≤ (a + b).num := by
  rw [Rat.num_nonneg] at *
  exact Rat.add_nonneg h1 h2
theorem rsum_num {l : List Rat} (h : ∀ r, r ∈ l → 0 ≤ r.num) : 0 ≤ (rsum l).num := by
  revert h
  refine snocInd (P := fun l => (∀ r, r ∈ l → 0 ≤ r.num) → 0 ≤ (rsum l).num) (fun _ => Int.le_refl 0) (fun l x ih h => ?_) l
  rw [rsum_snoc]
  exact add_num (ih fun r hr => h r (List.mem_append_left _ hr)) (h x (by simp))
end Co
end
noncomputable section
namespace Co
open PySem PySem.Spec PyProof.Rows L2 Pi
/-! ### prices -/
def rat (r : Rd3) : Rat := Rat.divInt r.2.1 r.2.2
theorem rat_D {r : Rd3} (p : Prc r.2.1 r.2.2) : rD (rat r) = .tup [.int r.2.1, .int r.2.2] := by
  have q := p.q1
  unfold rat
  rw [← fr_rD (by omega)]
  unfold fr
  rw [nu_low p.q1 p.cop, de_low p.q1 p.cop]
theorem rat_b {r : Rd3} (p : Prc r.2.1 r.2.2) : Rb 210 210 (rat r) ∧ 0 ≤ (rat r).num := by
  have q := p.q1
  obtain ⟨e1, e2⟩ := num_of (t := r.2.1) (b := r.2.2) (by omega)
  rw [nu_low p.q1 p.cop] at e1
  rw [de_low p.q1 p.cop] at e2
  refine ⟨⟨?_, ?_⟩, ?_⟩
  · show B 210 (Rat.divInt r.2.1 r.2.2).num
    rw [e1]; exact p.bp
  · show B 210 ((Rat.divInt r.2.1 r.2.2).den : Int)
    rw [e2]; exact p.bq
  · show 0 ≤ (Rat.divInt r.2.1 r.2.2).num
    rw [e1]; exact p.p0
/-- the price of a road -/
def pr (Rs : List Rd3) (k : Nat) : Rat := ((Rs[k - 1]?).map rat).getD 0
theorem pr_at {Rs : List Rd3} {k : Nat} {r : Rd3} (h : Rs[k - 1]? = some r) : pr Rs k = rat r := by
  unfold pr
  rw [h]
  rfl
theorem pr_b {Rs : List Rd3} (h : Tre Rs) {k : Nat} (h1 : 1 ≤ k) (h2 : k ≤ Rs.length) : Rb 210 210 (pr Rs k) ∧ 0 ≤ (pr Rs k).num := by
  obtain ⟨r, hr⟩ := rd_ex h1 h2
  rw [pr_at hr]
  exact rat_b (h.prc r (List.mem_of_getElem? hr))
theorem flat_rD (r : Rat) : flat (rD r) = true := by simp [rD]
theorem rd_price {Rs : List Rd3} (h : Tre Rs) {k : Nat} {r : Rd3} (hr : Rs[k - 1]? = some r) : oIx (rd r) (.int 1) = some (rD (pr Rs k)) := by
  rw [pr_at hr, rat_D (h.prc r (List.mem_of_getElem? hr))]
  rfl
theorem eFl_of {ev : EvE} {en : En} {d : D} (h : ev en = .ok d) (hf : flat d = true) : eFl ev en = .ok d := by
  rw [eFl_ap, h, bnd_ok, if_pos hf]
def s_tprice (e c : Nat) : EvS := (sRet (eFl (eB2 oIx (eMeth c (f_troad_at e c) (eVar 0) (aCons (eVar 1) aNil)) (eC (.int 1)))))
def f_tprice (e c : Nat) : List D → Rs D := runF 0 (s_tprice e c)
theorem tprice_of {e c : Nat} {Rs : List Rd3} (h : Tre Rs) {k : Nat} (h1 : 1 ≤ k) (h2 : k ≤ Rs.length) : f_tprice e c [tree c Rs, .int k] = .ok (rD (pr Rs k)) := by
  obtain ⟨r, hr⟩ := rd_ex h1 h2
  have ra := troad_at_eq (e := e) (c := c) h1 hr
  unfold f_tprice
  rw [runF_ap]
  show endR (s_tprice e c [some (tree c Rs), some (.int k)]) = _
  unfold s_tprice
  rw [sRet_ap, eFl_of (eB2_of (eMeth1_of (l := [.lst (Rs.map rd)]) rfl rfl ra) rfl (rd_price h hr)) (flat_rD _)]
  rfl
/-! ### sums of a list -/
def s_total (e : Nat) : EvS := (sSeq (sAs 1 (eTup (aCons (eC (.int 0)) (aCons (eC (.int 1)) aNil))))
  (sSeq (sFor (iL (eVar 0)) (set1 2)
    (sAs 1 (eCall (f_sumE e) (aCons (eVar 1) (aCons (eVar 2) aNil)))))
  (sRet (eVar 1))))
def f_total (e : Nat) : List D → Rs D := runF 2 (s_total e)
theorem rD_0 : rD 0 = .tup [.int 0, .int 1] := rfl
theorem total_eq {e : Nat} {l : List Rat} (hl : l.length ≤ 40) (hb : ∀ r, r ∈ l → Rb 210 210 r) : f_total e [.lst (l.map rD)] = .ok (rD (rsum l)) := by
  obtain ⟨en', q1, o, he⟩ := evFor_ix (set := set1 2) (body := sAs 1 (eCall (f_sumE e) (aCons (eVar 1) (aCons (eVar 2) aNil)))) (P := fun i en => ∃ o, en = [some (.lst (l.map rD)), some (rD (rsum (l.take i))), o]) (l.map rD) 0
    [some (.lst (l.map rD)), some (rD 0), none] ⟨none, rfl⟩ (fun j d en hj ⟨o, he⟩ => by
      subst he
      rw [List.getElem?_map] at hj
      obtain ⟨x, hx, rfl⟩ := Option.map_eq_some_iff.mp hj
      have hjl := (List.getElem?_eq_some_iff.mp hx).1
      have e1 : l.take (0 + j + 1) = l.take (0 + j) ++ [x] := by rw [Nat.zero_add, List.take_succ, hx]; rfl
      have hb1 := rsum_b (l := l.take (0 + j)) fun r hr => hb r (List.mem_of_mem_take hr)
      have tl : (l.take (0 + j)).length ≤ 39 := by rw [List.length_take]; omega
      have s := sumE_eq (e := e) hb1 (hb x (List.mem_of_getElem? hx)) (by omega) (by omega) (by omega)
      refine ⟨_, _, rfl, sAs_of (eCall2_of rfl rfl s), some (rD x), ?_⟩
      rw [e1, rsum_snoc]
      rfl)
  subst he
  rw [List.length_map, Nat.zero_add, List.take_length] at q1
  unfold f_total
  rw [runF_ap]
  show endR (s_total e [some (.lst (l.map rD)), none, none]) = _
  unfold s_total
  refine step_nx (en' := [some (.lst (l.map rD)), some (rD 0), none]) rfl ?_
  refine step_nx (sFor_of (iL_of rfl) q1) ?_
  rfl
/-! ### what a group costs -/
def cst (Rs : List Rd3) (h : Hms) (g : List Str) : Rat := rsum ((need Rs h g).map (pr Rs))
theorem need_rng {Rs : List Rd3} {h : Hms} {g : List Str} : ∀ k, k ∈ need Rs h g → 1 ≤ k ∧ k ≤ Rs.length := fun k hk => crs_mem.mp (List.mem_filter.mp hk).1
def s_cost (e1 e2 c : Nat) : EvS := (sRet (eCall (f_total e1) (aCons (eLc [3] (iL (eCall (f_needed e2 c) (aCons (eVar 0) (aCons (eVar 1) (aCons (eVar 2) aNil))))) (set1 3) (fun _ => .ok true) (eMeth c (f_tprice e2 c) (eVar 0) (aCons (eVar 3) aNil))) aNil)))
def f_cost (e1 e2 c : Nat) : List D → Rs D := runF 1 (s_cost e1 e2 c)
theorem cost_eq {e1 e2 c : Nat} {Rs : List Rd3} (t : Tre Rs) {h : Hms} (hh : Hm Rs.length h) {g : List Str} (hg : ∀ x, x ∈ g → x ∈ h.map (·.1)) : f_cost e1 e2 c [tree c Rs, homesD h, .lst (ts g)] = .ok (rD (cst Rs h g)) := by
  have nd := needed_eq (e := e2) (c := c) t hh hg
  have few := t.few
  have nl : (need Rs h g).length ≤ Rs.length := filt_len _ _
  have lc : evLc (set1 3) (fun _ => .ok true) (eMeth c (f_tprice e2 c) (eVar 0) (aCons (eVar 3) aNil)) (wipE [3] [some (tree c Rs), some (homesD h), some (.lst (ts g)), none]) (tn (need Rs h g)) = .ok ((need Rs h g).map fun k => rD (pr Rs k)) :=
    evLc_map (q := fun k : Nat => D.int k) (r := fun k => rD (pr Rs k)) (need Rs h g) fun k hk => ⟨_, rfl, eMeth1_of (l := [.lst (Rs.map rd)]) rfl rfl (tprice_of t (need_rng k hk).1 (need_rng k hk).2)⟩
  have tot := total_eq (e := e1) (l := (need Rs h g).map (pr Rs)) (by rw [List.length_map]; omega) (fun r hr => by
    obtain ⟨k, hk, rfl⟩ := List.mem_map.mp hr
    exact (pr_b t (need_rng k hk).1 (need_rng k hk).2).1)
  rw [List.map_map] at tot
  unfold f_cost
  rw [runF_ap]
  show endR (s_cost e1 e2 c [some (tree c Rs), some (homesD h), some (.lst (ts g)), none]) = _
  unfold s_cost
  rw [sRet_ap, eCall1_of (eLc_ap (iL_of (eCall3_of rfl rfl rfl nd)) lc (by rw [List.length_map]; omega)) tot]
  rfl
/-! ### the law's own reckoning -/
def s_lcost : EvS := (sSeq (sAs 3 (eC (.dct [] [])))
  (sSeq (sAs 4 (eTup (aCons (eC (.int 0)) (aCons (eC (.int 1)) aNil))))
  (sSeq (sFor (iL (eVar 2)) (set1 5)
    (sFor (iL (eCall f_lway (aCons (eVar 0) (aCons (eB2 oDG (eVar 1) (eVar 5)) aNil)))) (set1 6)
    (sIf (tV (eB2 (oDI true) (eVar 6) (eVar 3)))
    (sSeq (sDSub 3 (eVar 6) (eC (.bl true)))
  (sAs 4 (eCall f_tadd (aCons (eVar 4) (aCons (eB2 oIx (eB2 oIx (eVar 0) (eB2 oSub (eVar 6) (eC (.int 1)))) (eC (.int 1))) aNil)))))
    sNil)))
  (sRet (eVar 4)))))
def f_lcost : List D → Rs D := runF 4 s_lcost
theorem oDI_fd (K : List Nat) (k : Nat) : oDI true (.int k) (fdD K) = some (.bl (!decide (k ∈ K))) := by
  show some (D.bl (xor true (kIn (fdK K) (.inl (k : Int))))) = _
  rw [kIn_fd, Bool.true_xor]
theorem lcost_eq {Rs : List Rd3} (t : Tre Rs) {h : Hms} (hh : Hm Rs.length h) {g : List Str} (hg : ∀ x, x ∈ g → x ∈ h.map (·.1)) : f_lcost [.lst (Rs.map rd), homesD h, .lst (ts g)] = .ok (rD (cst Rs h g)) := by
  let I : List Nat → Prop := fun K => K.Nodup ∧ ∀ k, k ∈ K → 1 ≤ k ∧ k ≤ Rs.length
  have few := t.few
  have klen : ∀ K, I K → K.length ≤ Rs.length := fun K hK => by
    have := (in_crs hK.1 hK.2).length_eq
    have fl := filt_len (fun k => decide (k ∈ K)) Rs.length
    omega
  let env : List Nat → Option D → Option D → En := fun K o5 o6 => [some (.lst (Rs.map rd)), some (homesD h), some (.lst (ts g)), some (fdD K), some (rD (rsum (K.map (pr Rs)))), o5, o6]
  have step : ∀ (K : List Nat) (k : Nat) (o5 : Option D), I K → 1 ≤ k → k ≤ Rs.length → I (addN K k) ∧ sIf (tV (eB2 (oDI true) (eVar 6) (eVar 3)))
      (sSeq (sDSub 3 (eVar 6) (eC (.bl true)))
      (sAs 4 (eCall f_tadd (aCons (eVar 4) (aCons (eB2 oIx (eB2 oIx (eVar 0) (eB2 oSub (eVar 6) (eC (.int 1)))) (eC (.int 1))) aNil)))))
      sNil (env K o5 (some (.int k))) = .ok (.nx (env (addN K k) o5 (some (.int k)))) := fun K k o5 hI h1 h2 => by
    have IK : I (addN K k) := ⟨addN_nd hI.1 k, fun y hy => (addN_mem.mp hy).elim (hI.2 y) fun e => e ▸ ⟨h1, h2⟩⟩
    refine ⟨IK, ?_⟩
    have tst : tV (eB2 (oDI true) (eVar 6) (eVar 3)) (env K o5 (some (.int k))) = .ok (!decide (k ∈ K)) := tV_of (eB2_of rfl rfl (oDI_fd K k))
    rw [sIf_ap, tst, bnd_ok]
    by_cases hk : k ∈ K
    · have : addN K k = K := by unfold addN; rw [if_pos hk]
      rw [this, if_neg (by simpa using hk)]
      rfl
    · have ea : addN K k = K ++ [k] := by unfold addN; rw [if_neg hk]
      rw [if_pos (by simpa using hk)]
      have kl := klen K hI
      have kl2 := klen _ IK
      rw [ea, List.length_append] at kl2
      obtain ⟨r, hr⟩ := rd_ex h1 h2
      have pb := pr_b t h1 h2
      have sb := rsum_b (l := K.map (pr Rs)) fun r hr => by
        obtain ⟨y, hy, rfl⟩ := List.mem_map.mp hr
        exact (pr_b t (hI.2 y hy).1 (hI.2 y hy).2).1
      have sn := rsum_num (l := K.map (pr Rs)) fun r hr => by
        obtain ⟨y, hy, rfl⟩ := List.mem_map.mp hr
        exact (pr_b t (hI.2 y hy).1 (hI.2 y hy).2).2
      rw [List.length_map] at sb
      have kl3 : K.length + 1 ≤ 40 := by simp at kl2; omega
      have ad := tadd_eq sb pb.1 (by omega) (by omega) (by omega) sn pb.2
      have e5 : (K ++ [k]).map (pr Rs) = K.map (pr Rs) ++ [pr Rs k] := by simp
      rw [seq_nx (en' := [some (.lst (Rs.map rd)), some (homesD h), some (.lst (ts g)), some (fdD (K ++ [k])), some (rD (rsum (K.map (pr Rs)))), o5, some (.int k)]) (by
        rw [sDSub_of (ks := fdK K) (l := K.map fun _ => .bl true) (k := .inl (k : Int)) rfl rfl rfl rfl (by rw [fd_len]; omega), dPut_fd, ea]
        rfl)]
      rw [sAs_of (eCall2_of rfl (eB2_of (eB2_of rfl (eB2_of rfl rfl rfl) (rds_at h1 hr)) rfl (rd_price t hr)) ad), ea]
      show _ = Except.ok (Fl.nx [some (.lst (Rs.map rd)), some (homesD h), some (.lst (ts g)), some (fdD (K ++ [k])), some (rD (rsum ((K ++ [k]).map (pr Rs)))), o5, some (.int k)])
      rw [e5, rsum_snoc]
      rfl
  obtain ⟨⟨o5, o6⟩, q1, q2⟩ := evFor_fold (α := Str) (β := List Nat) (γ := Option D × Option D) (set := set1 5) (body := (sFor (iL (eCall f_lway (aCons (eVar 0) (aCons (eB2 oDG (eVar 1) (eVar 5)) aNil)))) (set1 6)
    (sIf (tV (eB2 (oDI true) (eVar 6) (eVar 3)))
    (sSeq (sDSub 3 (eVar 6) (eC (.bl true)))
  (sAs 4 (eCall f_tadd (aCons (eVar 4) (aCons (eB2 oIx (eB2 oIx (eVar 0) (eB2 oSub (eVar 6) (eC (.int 1)))) (eC (.int 1))) aNil)))))
    sNil))) (fun s o => env s o.1 o.2) (grow Rs h) D.str I g [] (none, none) ⟨List.nodup_nil, fun k hk => by cases hk⟩ (fun s x o hx hI => by
      have hxm := hg x hx
      have hle := home_le hh hxm
      obtain ⟨w1, w2⟩ := t.wy hle
      have lw := lway_eq few w1 w2
      have rng := w1.rng
      obtain ⟨o6', z1, z2⟩ := evFor_fold (α := Nat) (β := List Nat) (γ := Option D) (set := set1 6) (body := (sIf (tV (eB2 (oDI true) (eVar 6) (eVar 3)))
        (sSeq (sDSub 3 (eVar 6) (eC (.bl true)))
        (sAs 4 (eCall f_tadd (aCons (eVar 4) (aCons (eB2 oIx (eB2 oIx (eVar 0) (eB2 oSub (eVar 6) (eC (.int 1)))) (eC (.int 1))) aNil)))))
        sNil)) (fun s o => env s (some (.str x)) o) addN (fun k : Nat => D.int k) I (wy Rs (home h x)) s o.2 hI (fun s k o hk hs =>
          ⟨(step s k (some (.str x)) hs (rng k hk).1 (rng k hk).2).1, _, rfl, some (.int k), (step s k (some (.str x)) hs (rng k hk).1 (rng k hk).2).2⟩)
      exact ⟨z2, _, rfl, (some (.str x), o6'), sFor_of (iL_of (eCall2_of rfl (eB2_of rfl rfl (oDG_hm hxm)) lw)) z1⟩)
  have e2 : cst Rs h g = rsum ((g.foldl (grow Rs h) []).map (pr Rs)) := by
    refine rsum_perm (List.Perm.map _ ?_)
    have : need Rs h g = (crs Rs.length).filter fun k => decide (k ∈ g.foldl (grow Rs h) []) := by
      unfold need
      apply List.filter_congr
      intro k _
      rw [Bool.eq_iff_iff, List.any_eq_true, decide_eq_true_eq, growAll_mem]
      simp
    rw [this]
    exact in_crs q2.1 q2.2
  rw [e2]
  unfold f_lcost
  rw [runF_ap]
  show endR (s_lcost [some (.lst (Rs.map rd)), some (homesD h), some (.lst (ts g)), none, none, none, none]) = _
  unfold s_lcost
  refine step_nx (en' := [some (.lst (Rs.map rd)), some (homesD h), some (.lst (ts g)), some (fdD []), none, none, none]) rfl ?_
  refine step_nx (en' := env [] none none) rfl ?_
  refine step_nx (sFor_of (iL_of rfl) q1) ?_
  rfl
end Co
end
noncomputable section
namespace Co
open PySem PySem.Spec PyProof.Rows L2 Pi
/-! ### order of fractions -/
theorem div_le {t b t' b' : Int} (hb : 0 < b) (hb' : 0 < b') : Rat.divInt t b ≤ Rat.divInt t' b' ↔ t * b' ≤ t' * b := by
  obtain ⟨e1, e2⟩ := num_of (t := t) (b := b) (by omega)
  obtain ⟨e3, e4⟩ := num_of (t := t') (b := b') (by omega)
  rw [Rat.le_iff, e1, e2, e3, e4]
  have h1 := across (t := t) (b := b) (by omega)
  have h2 := across (t := t') (b := b') (by omega)
  have d1 := de_pos (t := t) (b := b) (by omega)
  have d2 := de_pos (t := t') (b := b') (by omega)
  generalize nu t b = p at *
  generalize de t b = q at *
  generalize nu t' b' = p' at *
  generalize de t' b' = q' at *
  have k1 : (t * b') * (q * q') = (p * q') * (b * b') := by
    calc (t * b') * (q * q') = (t * q) * (b' * q') := by simp only [Int.mul_assoc, Int.mul_left_comm, Int.mul_comm]
      _ = (p * b) * (b' * q') := by rw [h1]
      _ = (p * q') * (b * b') := by simp only [Int.mul_assoc, Int.mul_left_comm, Int.mul_comm]
  have k2 : (t' * b) * (q * q') = (p' * q) * (b * b') := by
    calc (t' * b) * (q * q') = (t' * q') * (b * q) := by simp only [Int.mul_assoc, Int.mul_left_comm, Int.mul_comm]
      _ = (p' * b') * (b * q) := by rw [h2]
      _ = (p' * q) * (b * b') := by simp only [Int.mul_assoc, Int.mul_left_comm, Int.mul_comm]
  have z1 : 0 < q * q' := Int.mul_pos d1 d2
  have z2 : 0 < b * b' := Int.mul_pos hb hb'
  constructor
  · intro h
    have := Int.mul_le_mul_of_nonneg_right h (Int.le_of_lt z2)
    rw [← k1, ← k2] at this
    exact Int.le_of_mul_le_mul_right this z1
  · intro h
    have := Int.mul_le_mul_of_nonneg_right h (Int.le_of_lt z1)
    rw [k1, k2] at this
    exact Int.le_of_mul_le_mul_right this z2
/-! ### sums over the crossings of a set -/
theorem rsum_cons (x : Rat) (l : List Rat) : rsum (x :: l) = x + rsum l := by
  have e : rsum (x :: l) = rsum (l ++ [x]) := rsum_perm (List.perm_append_comm (l₁ := [x]) (l₂ := l))
  rw [e, rsum_snoc, Rat.add_comm]
theorem filt_sum (f : Nat → Rat) (p : Nat → Bool) (k : Nat) (l : List Nat) : rsum (((k :: l).filter p).map f) = (if p k = true then f k else 0) + rsum ((l.filter p).map f) := by
  cases h : p k with
  | true => rw [List.filter_cons_of_pos h, List.map_cons, rsum_cons]; simp
  | false => rw [List.filter_cons_of_neg (by simp [h])]; simp [Rat.zero_add]
/-- what is in one of both and what is in both come to no more than both -/
theorem submod {f : Nat → Rat} {p q r s : Nat → Bool} : ∀ l : List Nat, (∀ k, k ∈ l → 0 ≤ f k ∧ (r k = true → p k = true ∨ q k = true) ∧ (s k = true → p k = true ∧ q k = true)) →
    rsum ((l.filter r).map f) + rsum ((l.filter s).map f) ≤ rsum ((l.filter p).map f) + rsum ((l.filter q).map f)
  | [], _ => Rat.le_refl
  | k :: l, h => by
    have ih := submod l fun x hx => h x (List.mem_cons_of_mem _ hx)
    obtain ⟨h0, h1, h2⟩ := h k List.mem_cons_self
    rw [filt_sum, filt_sum, filt_sum, filt_sum]
    generalize rsum ((l.filter r).map f) = R at *
    generalize rsum ((l.filter s).map f) = S at *
    generalize rsum ((l.filter p).map f) = P at *
    generalize rsum ((l.filter q).map f) = Q at *
    generalize f k = x at *
    cases hp : p k <;> cases hq : q k <;> cases hr : r k <;> cases hs : s k <;> simp_all <;> grind
theorem mono_sum {f : Nat → Rat} {p q : Nat → Bool} : ∀ l : List Nat, (∀ k, k ∈ l → 0 ≤ f k ∧ (p k = true → q k = true)) → rsum ((l.filter p).map f) ≤ rsum ((l.filter q).map f)
  | [], _ => Rat.le_refl
  | k :: l, h => by
    have ih := mono_sum l fun x hx => h x (List.mem_cons_of_mem _ hx)
    obtain ⟨h0, h1⟩ := h k List.mem_cons_self
    rw [filt_sum, filt_sum]
    generalize rsum ((l.filter p).map f) = P at *
    generalize rsum ((l.filter q).map f) = Q at *
    generalize f k = x at *
    cases hp : p k <;> cases hq : q k <;> simp_all <;> grind
/-! ### costs by sets of roads -/
/-- k is on a way of the group -/
def onW (Rs : List Rd3) (h : Hms) (g : List Str) (k : Nat) : Bool := g.any fun x => decide (k ∈ wy Rs (home h x))
theorem onW_iff {Rs : List Rd3} {h : Hms} {g : List Str} {k : Nat} : onW Rs h g k = true ↔ ∃ x, x ∈ g ∧ k ∈ wy Rs (home h x) := by
  unfold onW
  rw [List.any_eq_true]
  simp
theorem cst_eq (Rs : List Rd3) (h : Hms) (g : List Str) : cst Rs h g = rsum (((crs Rs.length).filter (onW Rs h g)).map (pr Rs)) := rfl
theorem pr_nn {Rs : List Rd3} (t : Tre Rs) {k : Nat} (hk : k ∈ crs Rs.length) : 0 ≤ pr Rs k := Rat.num_nonneg.mp (pr_b t (crs_mem.mp hk).1 (crs_mem.mp hk).2).2
theorem cst_sub {Rs : List Rd3} (t : Tre Rs) {h : Hms} {a b j u : List Str} (hj : ∀ x, x ∈ j → x ∈ a ∨ x ∈ b) (hu : ∀ x, x ∈ u → x ∈ a ∧ x ∈ b) : cst Rs h j + cst Rs h u ≤ cst Rs h a + cst Rs h b := by
  rw [cst_eq, cst_eq, cst_eq, cst_eq]
  refine submod _ fun k hk => ⟨pr_nn t hk, fun q => ?_, fun q => ?_⟩
  · obtain ⟨x, h1, h2⟩ := onW_iff.mp q
    exact (hj x h1).imp (fun z => onW_iff.mpr ⟨x, z, h2⟩) fun z => onW_iff.mpr ⟨x, z, h2⟩
  · obtain ⟨x, h1, h2⟩ := onW_iff.mp q
    exact ⟨onW_iff.mpr ⟨x, (hu x h1).1, h2⟩, onW_iff.mpr ⟨x, (hu x h1).2, h2⟩⟩
theorem cst_mono {Rs : List Rd3} (t : Tre Rs) {h : Hms} {a b : List Str} (hs : ∀ x, x ∈ a → x ∈ b) : cst Rs h a ≤ cst Rs h b := by
  rw [cst_eq, cst_eq]
  refine mono_sum _ fun k hk => ⟨pr_nn t hk, fun q => ?_⟩
  obtain ⟨x, h1, h2⟩ := onW_iff.mp q
  exact onW_iff.mpr ⟨x, hs x h1, h2⟩
theorem cst_b {Rs : List Rd3} (t : Tre Rs) (h : Hms) (g : List Str) : Rb 8480 8401 (cst Rs h g) ∧ 0 ≤ (cst Rs h g).num := by
  have few := t.few
  have nl : (need Rs h g).length ≤ Rs.length := filt_len _ _
  have b := rsum_b (l := (need Rs h g).map (pr Rs)) fun r hr => by
    obtain ⟨k, hk, rfl⟩ := List.mem_map.mp hr
    exact (pr_b t (need_rng k hk).1 (need_rng k hk).2).1
  rw [List.length_map] at b
  refine ⟨b.mono (by omega) (by omega), rsum_num fun r hr => ?_⟩
  obtain ⟨k, hk, rfl⟩ := List.mem_map.mp hr
  exact (pr_b t (need_rng k hk).1 (need_rng k hk).2).2
/-! ### texts in a list -/
theorem plL_ts' (xs : List Str) (n : Nat) : plL (ts xs) n = true := plL_ts xs n
theorem oIn_ts (x : Str) (l : List Str) : oInS false (.str x) (.lst (ts l)) = some (.bl (decide (x ∈ l))) := by
  show (if pl (.str x) 40 = true ∧ plL (ts l) 40 = true then some (D.bl (xor false ((ts l).any fun e => PyData.eqv (toP e) (toP (.str x))))) else none) = _
  rw [if_pos ⟨rfl, plL_ts l 40⟩, Bool.false_xor]
  have : ((ts l).any fun e => PyData.eqv (toP e) (toP (.str x))) = decide (x ∈ l) := by
    induction l with
    | nil => rfl
    | cons y l ih =>
      show (PyData.eqv (.str y) (.str x) || (ts l).any _) = _
      rw [ih]
      simp only [PyData.eqv, List.mem_cons]
      by_cases h : y = x
      · subst h
        simp
      · have h' : ¬ x = y := fun e => h e.symm
        have h2 : (y == x) = false := by simpa using h
        rw [h2]
        simp [h']
  rw [this]
/-! ### a drawn part of some names -/
def s_tpart : EvS := (sRet (eLc [2, 3] (iZp (aCons (eVar 1) (aCons (eCall f_tnumbers (aCons (eVar 0) (aCons (eBi oLen (aCons (eVar 1) aNil)) (aCons (eC (.int 2)) aNil)))) aNil))) (setT [2, 3]) (tV (eB2 oEq (eVar 3) (eC (.int 1)))) (eFl (eVar 2))))
def f_tpart : List D → Rs D := runF 2 s_tpart
/-- a part of some names -/
theorem tpart_eq (c : Int) (xs : List Str) (hx : xs.length < 900) : ∃ g : List Str, (∀ x, x ∈ g → x ∈ xs) ∧ f_tpart [.int c, .lst (ts xs)] = .ok (.lst (ts g)) := by
  obtain ⟨l, l1, l2, l3⟩ := tnumbers_eq (c := c) (most := 2) (by decide) (by unfold B; exact Nat.lt_of_lt_of_le (by decide : 2 < 2 ^ 6) (Nat.pow_le_pow_right (by decide) (by decide))) (m := xs.length) (by omega)
  have tl : (ts xs).length = xs.length := ts_len xs
  have key : ∀ (ys : List Str) (ms : List Int), (∀ y, y ∈ ys → y ∈ xs) → ∃ g : List Str, (∀ x, x ∈ g → x ∈ xs) ∧ g.length ≤ ys.length ∧ evLc (setT [2, 3]) (tV (eB2 oEq (eVar 3) (eC (.int 1)))) (eFl (eVar 2)) [some (.int c), some (.lst (ts xs)), none, none] (zipD (ts ys) (ms.map .int)) = .ok (ts g) := by
    intro ys
    induction ys with
    | nil => intro ms _; exact ⟨[], (fun x hx => by cases hx), Nat.le_refl _, rfl⟩
    | cons y ys ih =>
      intro ms hy
      cases ms with
      | nil => exact ⟨[], (fun x hx => by cases hx), Nat.zero_le _, rfl⟩
      | cons m ms =>
        obtain ⟨g, g1, g2, g3⟩ := ih ms fun z hz => hy z (List.mem_cons_of_mem _ hz)
        have e0 : evLc (setT [2, 3]) (tV (eB2 oEq (eVar 3) (eC (.int 1)))) (eFl (eVar 2)) [some (.int c), some (.lst (ts xs)), none, none] (zipD (ts (y :: ys)) ((m :: ms).map .int)) = bnd (tV (eB2 oEq (eVar 3) (eC (.int 1))) [some (.int c), some (.lst (ts xs)), some (.str y), some (.int m)]) fun b => if b = true then bnd (.ok (.str y)) fun d => bnd (evLc (setT [2, 3]) (tV (eB2 oEq (eVar 3) (eC (.int 1)))) (eFl (eVar 2)) [some (.int c), some (.lst (ts xs)), none, none] (zipD (ts ys) (ms.map .int))) fun r => .ok (d :: r) else evLc (setT [2, 3]) (tV (eB2 oEq (eVar 3) (eC (.int 1)))) (eFl (eVar 2)) [some (.int c), some (.lst (ts xs)), none, none] (zipD (ts ys) (ms.map .int)) := rfl
        rw [e0, tV_of (eB2_of rfl rfl (oEq_int m 1)), bnd_ok, g3]
        by_cases hm : m = 1
        · rw [if_pos (by simpa using hm)]
          exact ⟨y :: g, fun x hx => (List.mem_cons.mp hx).elim (fun e => e ▸ hy y List.mem_cons_self) (g1 x), by simp; omega, rfl⟩
        · rw [if_neg (by simpa using hm)]
          exact ⟨g, g1, by simp; omega, rfl⟩
  obtain ⟨g, g1, g2, g3⟩ := key xs l fun y hy => hy
  refine ⟨g, g1, ?_⟩
  unfold f_tpart
  rw [runF_ap]
  show endR (s_tpart [some (.int c), some (.lst (ts xs)), none, none]) = _
  unfold s_tpart
  have nums : f_tnumbers [.int c, .int ((xs.length : Nat) : Int), .int 2] = .ok (.lst (l.map .int)) := l3
  rw [sRet_ap, eLc_ap (iZp_of (x := ts xs) (y := l.map .int) rfl (eCall3_of rfl (eBi1_of rfl (by rw [oLen_lst, tl])) rfl nums)) g3 (by rw [ts_len]; omega)]
  rfl
theorem oAdd_lst {a b : List D} (h : a.length + b.length < 1000000) : oAdd (.lst a) (.lst b) = some (.lst (a ++ b)) := by
  have e : a.length + b.length ≤ sizeLine := by rw [sizeLine_eq]; omega
  simp [oAdd, e]
end Co
end
noncomputable section
namespace Co
open PySem PySem.Spec PyProof.Rows L2 Pi
/-! ### family B: what is drawn by one cell -/
def s_bnum : EvS := (sSeq (sAs 2 (eLst aNil))
  (sSeq (sAs 3 (eFl (eVar 0)))
  (sSeq (sFor (iRn (aCons (eVar 1) aNil)) (set1 4)
 (sIf (tV (eB2 oGe (eVar 0) (eB2 oPow (eC (.int 10)) (eC (.int 18)))))
 (sSeq (sApp 2 (eB2 oMod (eVar 3) (eC (.int 1000))))
  (sAs 3 (eB2 oDiv (eVar 3) (eC (.int 1000)))))
 (sSeq (sAs 5 (eB2 oMod (eB2 oAdd (eB2 oAdd (eFl (eB2 oMul (eVar 0) (eB2 oAdd (eC (.int 48271)) (eB2 oMul (eC (.int 2)) (eVar 4))))) (eB2 oMul (eC (.int 7919)) (eVar 4))) (eC (.int 5))) (eC (.int 99991))))
  (sApp 2 (eB2 oMod (eB2 oMul (eVar 5) (eB2 oAdd (eB2 oAdd (eVar 5) (eC (.int 3))) (eVar 4))) (eC (.int 99989)))))))
  (sRet (eVar 2)))))
def f_bnum : List D → Rs D := runF 4 s_bnum
def s_bprice : EvS := (sSeq (sIf (tV (eVar 1))
 (sSeq (sAs 3 (eB2 oMod (eB2 oMul (eB2 oMul (eFl (eB2 oAdd (eB2 oMod (eVar 2) (eB2 oPow (eC (.int 10)) (eC (.int 12)))) (eVar 0))) (eC (.int 6364136223846793005))) (eB2 oPow (eFl (eB2 oAdd (eVar 0) (eC (.int 3)))) (eC (.int 3)))) (eB2 oSub (eB2 oPow (eC (.int 10)) (eC (.int 29))) (eC (.int 1)))))
  (sRet (eCall f_low (aCons (eVar 3) (aCons (eB2 oAdd (eC (.int 1)) (eB2 oMod (eB2 oMul (eB2 oMul (eFl (eB2 oAdd (eVar 2) (eVar 0))) (eB2 oPow (eC (.int 7)) (eC (.int 30)))) (eFl (eB2 oAdd (eVar 0) (eC (.int 1))))) (eB2 oSub (eB2 oPow (eC (.int 10)) (eC (.int 29))) (eC (.int 1))))) aNil)))))
 sNil)
  (sRet (eCall f_low (aCons (eB2 oMod (eVar 0) (eC (.int 13))) (aCons (eB2 oAdd (eC (.int 1)) (eB2 oMod (eB2 oDiv (eVar 0) (eC (.int 13))) (eC (.int 6)))) aNil)))))
def f_bprice : List D → Rs D := runF 1 s_bprice
def s_broads : EvS := (sSeq (sAs 2 (eCall f_bnum (aCons (eVar 0) (aCons (eB2 oAdd (eFl (eB2 oMul (eC (.int 2)) (eVar 1))) (eC (.int 6))) aNil))))
  (sSeq (sAs 3 (eB2 oMod (eB2 oIx (eVar 2) (eC (.int 0))) (eVar 1)))
  (sSeq (sAs 4 (eB2 oEq (eB2 oMod (eB2 oIx (eVar 2) (eC (.int 1))) (eC (.int 6))) (eC (.int 3))))
  (sSeq (sIf (tV (eVar 4))
 (sAs 3 (eBi oMin (aCons (eVar 3) (aCons (eC (.int 4)) aNil))))
 sNil)
  (sSeq (sAs 5 (eB2 oMod (eB2 oIx (eVar 2) (eC (.int 2))) (eBi oMax (aCons (eC (.int 1)) (aCons (eVar 3) aNil)))))
  (sSeq (sAs 6 (eLc [7] (iRn (aCons (eVar 3) aNil)) (set1 7) (fun _ => .ok true) (eC .non)))
  (sSeq (sFor (iRn (aCons (eC (.int 1)) (aCons (eB2 oAdd (eVar 3) (eC (.int 1))) aNil))) (set1 7)
 (sSeq (sAs 8 (eB2 oMod (eB2 oIx (eVar 2) (eB2 oAdd (eB2 oMul (eC (.int 2)) (eVar 7)) (eC (.int 4)))) (eVar 7)))
  (sSeq (sIf (tAn (tV (eB2 oEq (eB2 oMod (eB2 oIx (eVar 2) (eC (.int 3))) (eC (.int 3))) (eC (.int 1)))) (tV (eB2 oGt (eB2 oMod (eB2 oIx (eVar 2) (eB2 oAdd (eB2 oMul (eC (.int 2)) (eVar 7)) (eC (.int 4)))) (eC (.int 4))) (eC (.int 0)))))
 (sAs 8 (eB2 oSub (eVar 7) (eC (.int 1))))
 sNil)
  (sSeq (sIf (tV (eB2 oGt (eVar 8) (eC (.int 0))))
 (sAs 8 (eB2 oAdd (eC (.int 1)) (eB2 oMod (eB2 oAdd (eB2 oSub (eVar 8) (eC (.int 1))) (eVar 5)) (eVar 3))))
 sNil)
  (sSub 6 (eB2 oMod (eB2 oAdd (eB2 oSub (eVar 7) (eC (.int 1))) (eVar 5)) (eVar 3)) (eTup (aCons (eVar 8) (aCons (eCall f_bprice (aCons (eB2 oIx (eVar 2) (eB2 oAdd (eB2 oMul (eC (.int 2)) (eVar 7)) (eC (.int 5)))) (aCons (eVar 4) (aCons (eVar 0) aNil)))) aNil))))))))
  (sRet (eVar 6)))))))))
def f_broads : List D → Rs D := runF 7 s_broads
abbrev bNum : EvS := (sIf (tV (eB2 oGe (eVar 0) (eB2 oPow (eC (.int 10)) (eC (.int 18)))))
    (sSeq (sApp 2 (eB2 oMod (eVar 3) (eC (.int 1000))))
  (sAs 3 (eB2 oDiv (eVar 3) (eC (.int 1000)))))
    (sSeq (sAs 5 (eB2 oMod (eB2 oAdd (eB2 oAdd (eFl (eB2 oMul (eVar 0) (eB2 oAdd (eC (.int 48271)) (eB2 oMul (eC (.int 2)) (eVar 4))))) (eB2 oMul (eC (.int 7919)) (eVar 4))) (eC (.int 5))) (eC (.int 99991))))
  (sApp 2 (eB2 oMod (eB2 oMul (eVar 5) (eB2 oAdd (eB2 oAdd (eVar 5) (eC (.int 3))) (eVar 4))) (eC (.int 99989))))))
theorem bNum_eq {c : Int} {m : D} {acc : List Int} {rest : Int} {k : Nat} {o : Option D} (hk : k < 1000) (hl : acc.length < 1000) : ∃ (x rest' : Int) (o' : Option D), 0 ≤ x ∧ x < 99989 ∧
    bNum [some (.int c), some m, some (.lst (acc.map .int)), some (.int rest), some (.int k), o] = .ok (.nx [some (.int c), some m, some (.lst ((acc ++ [x]).map .int)), some (.int rest'), some (.int k), o']) := by
  have p18 : oPow (.int 10) (.int 18) = some (.int 1000000000000000000) := rfl
  have sz : (acc.map D.int).length < sizeLine := by rw [List.length_map, sizeLine_eq]; omega
  have ap : ∀ x : Int, acc.map D.int ++ [.int x] = (acc ++ [x]).map .int := fun x => by simp
  by_cases hc : c < 1000000000000000000
  · have m1 : mulOk 2 (k : Int) = true := mulOk_l (by decide)
    have m2 : mulOk c (48271 + 2 * (k : Int)) = true := mulOk_r (by omega)
    have m3 : mulOk 7919 (k : Int) = true := mulOk_l (by decide)
    generalize hw : (c * (48271 + 2 * (k : Int)) + 7919 * (k : Int) + 5).fmod 99991 = w
    have w0 := Int.fmod_nonneg_of_pos (c * (48271 + 2 * (k : Int)) + 7919 * (k : Int) + 5) (b := 99991) (by decide)
    have w1 := Int.fmod_lt_of_pos (c * (48271 + 2 * (k : Int)) + 7919 * (k : Int) + 5) (b := 99991) (by decide)
    rw [hw] at w0 w1
    have m4 : mulOk w (w + 3 + (k : Int)) = true := mulOk_l (by omega)
    refine ⟨(w * (w + 3 + (k : Int))).fmod 99989, rest, some (.int w), Int.fmod_nonneg_of_pos _ (by decide), Int.fmod_lt_of_pos _ (by decide), ?_⟩
    rw [← ap]
    have hge : ¬ (1000000000000000000 ≤ c) := by omega
    generalize acc.map D.int = A at *
    simp [p18, hc, hge, oMul_int m1, oMul_int m2, oMul_int m3, oMul_int m4, oMod_int, hw, sz]
  · have hd : oDiv (.int rest) (.int 1000) = some (.int (rest.fdiv 1000)) := oDiv_int (divOk_of (m := 10) (by decide) (by decide) (by decide) (by decide))
    refine ⟨rest.fmod 1000, rest.fdiv 1000, o, Int.fmod_nonneg_of_pos _ (by decide), by have := Int.fmod_lt_of_pos rest (b := 1000) (by decide); omega, ?_⟩
    rw [← ap]
    have hge : 1000000000000000000 ≤ c := by omega
    generalize acc.map D.int = A at *
    simp [p18, hc, hge, hd, oMod_int, sz]
theorem bnum_eq (c : Int) {m : Nat} (hm : m < 900) : ∃ l : List Int, l.length = m ∧ Bel 99989 l ∧ f_bnum [.int c, .int m] = .ok (.lst (l.map .int)) := by
  obtain ⟨en', q1, l, r, o4, o5, he, hl, hB⟩ := evFor_ix (set := set1 4) (body := bNum) (P := fun i en => ∃ (l : List Int) (r : Int) (o4 o5 : Option D), en = [some (.int c), some (.int m), some (.lst (l.map .int)), some (.int r), o4, o5] ∧ l.length = i ∧ Bel 99989 l) (tn (List.range m)) 0
    [some (.int c), some (.int m), some (.lst []), some (.int c), none, none] ⟨[], c, none, none, rfl, rfl, fun x h => by cases h⟩ (fun j d en hj ⟨l, r, o4, o5, he, hl, hB⟩ => by
      subst he
      obtain ⟨k, hk, rfl⟩ := tn_ix hj
      have hjm : j < m := by have := (List.getElem?_eq_some_iff.mp hk).1; simpa using this
      have hkm : k < m := List.mem_range.mp (List.mem_of_getElem? hk)
      obtain ⟨x, r', o', x0, x1, e⟩ := bNum_eq (c := c) (m := .int m) (acc := l) (rest := r) (k := k) (o := o5) (by omega) (by omega)
      refine ⟨_, _, rfl, e, l ++ [x], r', some (.int k), o', rfl, by simp; omega, fun y hy => ?_⟩
      rcases List.mem_append.mp hy with h | h
      · exact hB y h
      · have : y = x := by simpa using h
        rw [this]; exact ⟨x0, x1⟩)
  subst he
  refine ⟨l, by simpa [tn] using hl, hB, ?_⟩
  have rg := oRng_nat (m := m) (by omega)
  rw [← tn_range] at rg
  unfold f_bnum
  rw [runF_ap]
  show endR (s_bnum [some (.int c), some (.int m), none, none, none, none]) = _
  unfold s_bnum
  refine step_nx (en' := [some (.int c), some (.int m), some (.lst []), none, none, none]) rfl ?_
  refine step_nx (en' := [some (.int c), some (.int m), some (.lst []), some (.int c), none, none]) (sAs_of (eFl_of rfl (flat_int c))) ?_
  refine step_nx (sFor_of (iRn1_of rfl rg) q1) ?_
  rfl
theorem B.pow3 {n : Nat} {i : Int} (h : B n i) : B (n + n + n) (i ^ 3) := by
  have e : i ^ 3 = i * i * i := by rw [Int.pow_succ, Int.pow_succ, Int.pow_succ, Int.pow_zero, Int.one_mul]
  rw [e]
  exact (h.mul h).mul h
/-- a cell's size -/
structure Sz (c : Int) : Prop where
  b : ∃ m, m ≤ 1048577 ∧ B m c
theorem bprice_eq {v : Int} (h0 : 0 ≤ v) (h1 : v < 99989) {c : Int} (hc : Sz c) (wide : Bool) : ∃ p q : Int, Prc p q ∧ (p.natAbs < 100000000000000000000000000000 ∧ q.natAbs < 100000000000000000000000000000) ∧ f_bprice [.int v, .bl wide, .int c] = .ok (.tup [.int p, .int q]) := by
  have big : ∀ b : Int, B 210 b → b.natAbs < 2 ^ 4000 := fun b hb => hb.mono (by decide : 210 ≤ 4000)
  cases wide with
  | true =>
    have p12 : oPow (.int 10) (.int 12) = some (.int 1000000000000) := rfl
    have p29 : oPow (.int 10) (.int 29) = some (.int 100000000000000000000000000000) := rfl
    have p7 : oPow (.int 7) (.int 30) = some (.int 22539340290692258087863249) := rfl
    have p3 : oPow (.int (v + 3)) (.int 3) = some (.int ((v + 3) ^ 3)) := oPow_int ⟨by decide, by decide, by omega⟩
    have b3 : B 51 ((v + 3) ^ 3) := B.pow3 (n := 17) (by unfold B; omega)
    have m1 : ∀ x, mulOk x 6364136223846793005 = true := fun x => mulOk_r (by decide)
    have m2 : ∀ x, mulOk x ((v + 3) ^ 3) = true := fun x => mulOk_r (Nat.lt_of_lt_of_le b3 (by decide))
    obtain ⟨m, hm, hB⟩ := hc.b
    have m3 : mulOk (c + v) 22539340290692258087863249 = true := by
      have bv : B (m + 20) v := B.mono (m := 20) (by unfold B; omega) (by omega)
      exact ((hB.mono (by omega : m ≤ m + 20)).add bv).ok (n := 85) (by unfold B; decide) (by omega) (by decide)
    have m4 : ∀ x, mulOk x (v + 1) = true := fun x => mulOk_r (by omega)
    generalize ht : ((c.fmod 1000000000000 + v) * 6364136223846793005 * (v + 3) ^ 3).fmod 99999999999999999999999999999 = t
    generalize hz : ((c + v) * 22539340290692258087863249 * (v + 1)).fmod 99999999999999999999999999999 = z
    have a1 := Int.fmod_nonneg_of_pos ((c.fmod 1000000000000 + v) * 6364136223846793005 * (v + 3) ^ 3) (b := 99999999999999999999999999999) (by decide)
    have a2 := Int.fmod_lt_of_pos ((c.fmod 1000000000000 + v) * 6364136223846793005 * (v + 3) ^ 3) (b := 99999999999999999999999999999) (by decide)
    have b1 := Int.fmod_nonneg_of_pos ((c + v) * 22539340290692258087863249 * (v + 1)) (b := 99999999999999999999999999999) (by decide)
    have b2 := Int.fmod_lt_of_pos ((c + v) * 22539340290692258087863249 * (v + 1)) (b := 99999999999999999999999999999) (by decide)
    rw [ht] at a1 a2
    rw [hz] at b1 b2
    have B1 : B 210 t := B.mono (m := 101) (by unfold B; omega) (by decide)
    have B2 : B 210 (1 + z) := B.mono (m := 101) (by unfold B; omega) (by decide)
    refine ⟨_, _, fr_prc a1 (show 0 < 1 + z by omega) B1 B2, ⟨Nat.lt_of_le_of_lt (nu_le (by omega)) (by omega), Nat.lt_of_le_of_lt (de_le (by omega)) (by omega)⟩, ?_⟩
    have e := low_eq (t := t) (show 0 < 1 + z by omega) (big _ B2)
    simp [f_bprice, s_bprice, p12, p29, p7, p3, oMod_int, oMul_int (m1 _), oMul_int (m2 _), oMul_int m3, oMul_int (m4 _), ht, hz, e]
    rfl
  | false =>
    have hd : oDiv (.int v) (.int 13) = some (.int (v.fdiv 13)) := oDiv_int (divOk_of (m := 5) (by decide) (by decide) (by decide) (by decide))
    have a1 := Int.fmod_nonneg_of_pos v (b := 13) (by decide)
    have a2 := Int.fmod_lt_of_pos v (b := 13) (by decide)
    have b1 := Int.fmod_nonneg_of_pos (v.fdiv 13) (b := 6) (by decide)
    have b2 := Int.fmod_lt_of_pos (v.fdiv 13) (b := 6) (by decide)
    generalize hT : v.fmod 13 = t at a1 a2
    generalize hZ : (v.fdiv 13).fmod 6 = z at b1 b2
    have B1 : B 210 t := B.mono (m := 101) (by unfold B; omega) (by decide)
    have B2 : B 210 (1 + z) := B.mono (m := 101) (by unfold B; omega) (by decide)
    refine ⟨_, _, fr_prc a1 (show 0 < 1 + z by omega) B1 B2, ⟨Nat.lt_of_le_of_lt (nu_le (by omega)) (by omega), Nat.lt_of_le_of_lt (de_le (by omega)) (by omega)⟩, ?_⟩
    have e := low_eq (t := t) (show 0 < 1 + z by omega) (big _ B2)
    simp [f_bprice, s_bprice, oMod_int, hd, hT, hZ, e]
    rfl
theorem cell_sz {ns : List Int} (hb : bitsLe ns) (k : Nat) (hk : k < 100) : Sz (cellAt ns k) := by
  unfold cellAt
  split
  · rename_i h
    have z := hb ns[k] (List.getElem_mem h)
    unfold Builtin.Int.intBits at z
    refine ⟨⟨(ns[k]).natAbs.log2 + 1, ?_, ?_⟩⟩
    · split at z
      · rename_i e
        have : ns[k] = 0 := by simpa using e
        rw [this]
        decide
      · omega
    · unfold B
      exact Nat.lt_log2_self
  · exact ⟨⟨10, by decide, by unfold B; omega⟩⟩
end Co
end
noncomputable section
namespace Co
open PySem PySem.Spec PyProof.Rows L2 Pi
/-! ### the drawn roads, turned -/
/-- the place of the crossing drawn as number a + 1 -/
def tm (n t a : Nat) : Nat := if a + t < n then a + t else a + t - n
def tT (n t : Nat) : List Nat := (List.range n).map fun a => tm n t a + 1
theorem tm_mod {n t a : Nat} (ha : a < n) (ht : t < n) : (a + t) % n = tm n t a := by
  unfold tm
  by_cases h : a + t < n
  · rw [if_pos h, Nat.mod_eq_of_lt h]
  · rw [if_neg h, Nat.mod_eq_sub_mod (by omega), Nat.mod_eq_of_lt (by omega)]
theorem tm_lt {n t a : Nat} (ha : a < n) (ht : t < n) : tm n t a < n := by unfold tm; split <;> omega
theorem tm_inj {n t a b : Nat} (ha : a < n) (hb : b < n) (ht : t < n) (h : tm n t a = tm n t b) : a = b := by
  unfold tm at h
  split at h <;> split at h <;> omega
theorem tT_at {n t j : Nat} (h : j < n) : (tT n t)[j]? = some (tm n t j + 1) := by
  unfold tT
  rw [List.getElem?_map, List.getElem?_range h]
  rfl
theorem fmod_nat (a b : Nat) : (a : Int).fmod (b : Int) = ((a % b : Nat) : Int) := by
  rw [Int.fmod_eq_emod_of_nonneg _ (by omega)]
  rfl
/-- a price of few figures -/
def sm (r : Rd3) : Prop := r.2.1.natAbs < 100000000000000000000000000000 ∧ r.2.2.natAbs < 100000000000000000000000000000
theorem sm_b {r : Rd3} (h : sm r) : B 101 r.2.1 ∧ B 101 r.2.2 := ⟨Nat.lt_of_lt_of_le h.1 (by decide), Nat.lt_of_lt_of_le h.2 (by decide)⟩
/-- a road that may not stand yet -/
def rdo : Option Rd3 → D
  | none => .non
  | some r => rd r
abbrev bBr : EvS := (sSeq (sAs 8 (eB2 oMod (eB2 oIx (eVar 2) (eB2 oAdd (eB2 oMul (eC (.int 2)) (eVar 7)) (eC (.int 4)))) (eVar 7)))
  (sSeq (sIf (tAn (tV (eB2 oEq (eB2 oMod (eB2 oIx (eVar 2) (eC (.int 3))) (eC (.int 3))) (eC (.int 1)))) (tV (eB2 oGt (eB2 oMod (eB2 oIx (eVar 2) (eB2 oAdd (eB2 oMul (eC (.int 2)) (eVar 7)) (eC (.int 4)))) (eC (.int 4))) (eC (.int 0)))))
    (sAs 8 (eB2 oSub (eVar 7) (eC (.int 1))))
    sNil)
  (sSeq (sIf (tV (eB2 oGt (eVar 8) (eC (.int 0))))
    (sAs 8 (eB2 oAdd (eC (.int 1)) (eB2 oMod (eB2 oAdd (eB2 oSub (eVar 8) (eC (.int 1))) (eVar 5)) (eVar 3))))
    sNil)
  (sSub 6 (eB2 oMod (eB2 oAdd (eB2 oSub (eVar 7) (eC (.int 1))) (eVar 5)) (eVar 3)) (eTup (aCons (eVar 8) (aCons (eCall f_bprice (aCons (eB2 oIx (eVar 2) (eB2 oAdd (eB2 oMul (eC (.int 2)) (eVar 7)) (eC (.int 5)))) (aCons (eVar 4) (aCons (eVar 0) aNil)))) aNil)))))))
theorem xs_at {X : List Int} {i : Nat} (h : i < X.length) : oIx (.lst (X.map .int)) (.int (i : Nat)) = some (.int X[i]) := by
  rw [oIx_lst (by simpa using h)]
  simp
theorem bBr_eq {c : Int} (hc : Sz c) {mo : D} {X : List Int} (hX : Bel 99989 X) {n t a : Nat} {w : Bool} {L : List (Option Rd3)} {o8 : Option D} (hL : L.length = n) (ha : a < n) (ht : t < n) (hn : n < 20) (hl : 2 * n + 6 ≤ X.length) :
    ∃ r : Rd3, okR (tT n t) a r ∧ sm r ∧ ∃ o8', bBr [some (.int c), some mo, some (.lst (X.map .int)), some (.int (n : Nat)), some (.bl w), some (.int (t : Nat)), some (.lst (L.map rdo)), some (.int ((a + 1 : Nat) : Int)), o8] =
      .ok (.nx [some (.int c), some mo, some (.lst (X.map .int)), some (.int (n : Nat)), some (.bl w), some (.int (t : Nat)), some (.lst ((L.set (tm n t a) (some r)).map rdo)), some (.int ((a + 1 : Nat) : Int)), o8']) := by
  have i1 : 2 * ((a + 1 : Nat) : Int) + 4 = ((2 * a + 6 : Nat) : Int) := by omega
  have i2 : 2 * ((a + 1 : Nat) : Int) + 5 = ((2 * a + 7 : Nat) : Int) := by omega
  have x3 := xs_at (X := X) (i := 3) (by omega)
  have x4 := xs_at (X := X) (i := 2 * a + 6) (by omega)
  have x5 := xs_at (X := X) (i := 2 * a + 7) (by omega)
  have h4 := hX X[2 * a + 6] (List.getElem_mem _)
  have h5 := hX X[2 * a + 7] (List.getElem_mem _)
  generalize X[3] = y3 at *
  generalize X[2 * a + 6] = y4 at *
  generalize X[2 * a + 7] = y5 at *
  obtain ⟨p, q, hpq, hsm, ep⟩ := bprice_eq (v := y5) h5.1 h5.2 hc w
  have m2 : mulOk 2 ((a + 1 : Nat) : Int) = true := mulOk_l (by decide)
  have ne1 : ((a + 1 : Nat) : Int) ≠ 0 := by omega
  have nen : ((n : Nat) : Int) ≠ 0 := by omega
  have g1 := Int.fmod_nonneg_of_pos y4 (b := ((a + 1 : Nat) : Int)) (by omega)
  have g2 := Int.fmod_lt_of_pos y4 (b := ((a + 1 : Nat) : Int)) (by omega)
  obtain ⟨u, hu⟩ : ∃ u : Nat, y4.fmod ((a + 1 : Nat) : Int) = u := ⟨_, (Int.toNat_of_nonneg g1).symm⟩
  rw [hu] at g2
  have e3 : oIx (.lst (X.map .int)) (.int 3) = some (.int y3) := x3
  generalize X.map D.int = XD at *
  obtain ⟨to0, hto0, s2⟩ : ∃ to0 : Nat, to0 < a + 1 ∧ (sIf (tAn (tV (eB2 oEq (eB2 oMod (eB2 oIx (eVar 2) (eC (.int 3))) (eC (.int 3))) (eC (.int 1)))) (tV (eB2 oGt (eB2 oMod (eB2 oIx (eVar 2) (eB2 oAdd (eB2 oMul (eC (.int 2)) (eVar 7)) (eC (.int 4)))) (eC (.int 4))) (eC (.int 0)))))
    (sAs 8 (eB2 oSub (eVar 7) (eC (.int 1))))
    sNil) [some (.int c), some mo, some (.lst XD), some (.int (n : Nat)), some (.bl w), some (.int (t : Nat)), some (.lst (L.map rdo)), some (.int ((a + 1 : Nat) : Int)), some (.int (u : Nat))] = .ok (.nx [some (.int c), some mo, some (.lst XD), some (.int (n : Nat)), some (.bl w), some (.int (t : Nat)), some (.lst (L.map rdo)), some (.int ((a + 1 : Nat) : Int)), some (.int (to0 : Nat))]) := by
    have ea : ((a + 1 : Nat) : Int) - 1 = (a : Nat) := by omega
    have t1 : tAn (tV (eB2 oEq (eB2 oMod (eB2 oIx (eVar 2) (eC (.int 3))) (eC (.int 3))) (eC (.int 1)))) (tV (eB2 oGt (eB2 oMod (eB2 oIx (eVar 2) (eB2 oAdd (eB2 oMul (eC (.int 2)) (eVar 7)) (eC (.int 4)))) (eC (.int 4))) (eC (.int 0)))) [some (.int c), some mo, some (.lst XD), some (.int (n : Nat)), some (.bl w), some (.int (t : Nat)), some (.lst (L.map rdo)), some (.int ((a + 1 : Nat) : Int)), some (.int (u : Nat))] = .ok (decide (y3.fmod 3 = 1) && decide (0 < y4.fmod 4)) := by
      generalize L.map rdo = LD at *
      generalize ((a + 1 : Nat) : Int) = A at *
      generalize ((2 * a + 6 : Nat) : Int) = I4 at *
      by_cases h : y3.fmod 3 = 1
      · simp [e3, oMod_int, h, oMul_int m2, i1, x4]
      · simp [e3, oMod_int, h]
    rw [sIf_ap, t1, bnd_ok]
    cases (decide (y3.fmod 3 = 1) && decide (0 < y4.fmod 4)) with
    | true =>
      refine ⟨a, by omega, ?_⟩
      rw [if_pos rfl, sAs_of (eB2_of rfl rfl (oSub_int _ _)), ea]
      rfl
    | false =>
      refine ⟨u, by omega, ?_⟩
      rw [if_neg (by simp)]
      rfl
  obtain ⟨to, hto, s3⟩ : ∃ to : Nat, (to = 0 ∨ ∃ i, i < a ∧ (tT n t)[i]? = some to) ∧ (sIf (tV (eB2 oGt (eVar 8) (eC (.int 0))))
    (sAs 8 (eB2 oAdd (eC (.int 1)) (eB2 oMod (eB2 oAdd (eB2 oSub (eVar 8) (eC (.int 1))) (eVar 5)) (eVar 3))))
    sNil) [some (.int c), some mo, some (.lst XD), some (.int (n : Nat)), some (.bl w), some (.int (t : Nat)), some (.lst (L.map rdo)), some (.int ((a + 1 : Nat) : Int)), some (.int (to0 : Nat))] = .ok (.nx [some (.int c), some mo, some (.lst XD), some (.int (n : Nat)), some (.bl w), some (.int (t : Nat)), some (.lst (L.map rdo)), some (.int ((a + 1 : Nat) : Int)), some (.int (to : Nat))]) := by
    cases to0 with
    | zero =>
      refine ⟨0, .inl rfl, ?_⟩
      rw [sIf_ap, tV_of (b := false) (eB2_of rfl rfl rfl), bnd_ok, if_neg (by simp)]
      rfl
    | succ to0 =>
      refine ⟨tm n t to0 + 1, .inr ⟨to0, by omega, tT_at (by omega)⟩, ?_⟩
      have ez : ((to0 + 1 : Nat) : Int) - 1 + (t : Nat) = ((to0 + t : Nat) : Int) := by omega
      have ef : (((to0 + t : Nat) : Int)).fmod (n : Nat) = (tm n t to0 : Nat) := by rw [fmod_nat, tm_mod (by omega) ht]
      have eg : (1 : Int) + (tm n t to0 : Nat) = ((tm n t to0 + 1 : Nat) : Int) := by omega
      have gt : oGt (.int ((to0 + 1 : Nat) : Int)) (.int 0) = some (.bl true) := by
        show some (D.bl (decide ((0 : Int) < ((to0 + 1 : Nat) : Int)))) = _
        rw [decide_eq_true (by omega)]
      rw [sIf_ap, tV_of (b := true) (eB2_of rfl rfl gt), bnd_ok, if_pos rfl, sAs_of (eB2_of rfl (eB2_of (eB2_of (eB2_of rfl rfl (oSub_int _ _)) rfl (oAdd_int _ _)) rfl (oMod_int nen)) (oAdd_int _ _)), ez, ef, eg]
      rfl
  refine ⟨(to, p, q), ⟨hto, hpq⟩, hsm, some (.int (to : Nat)), ?_⟩
  unfold bBr
  rw [seq_nx (en' := [some (.int c), some mo, some (.lst XD), some (.int (n : Nat)), some (.bl w), some (.int (t : Nat)), some (.lst (L.map rdo)), some (.int ((a + 1 : Nat) : Int)), some (.int (u : Nat))]) (by
    rw [sAs_of (eB2_of (eB2_of (x := .lst XD) (y := .int (2 * ((a + 1 : Nat) : Int) + 4)) rfl (eB2_of (eB2_of rfl rfl (oMul_int m2)) rfl (oAdd_int _ _)) (by rw [i1]; exact x4)) rfl (oMod_int ne1)), hu]
    rfl)]
  rw [seq_nx s2, seq_nx s3]
  have ez : ((a + 1 : Nat) : Int) - 1 + (t : Nat) = ((a + t : Nat) : Int) := by omega
  have ef : (((a + t : Nat) : Int)).fmod (n : Nat) = (tm n t a : Nat) := by rw [fmod_nat, tm_mod ha ht]
  have tl := tm_lt ha ht
  have g6 : getL 6 [some (.int c), some mo, some (.lst XD), some (.int (n : Nat)), some (.bl w), some (.int (t : Nat)), some (.lst (L.map rdo)), some (.int ((a + 1 : Nat) : Int)), some (.int (to : Nat))] = .ok (L.map rdo) := rfl
  unfold sSub
  rw [g6, bnd_ok]
  have ev1 : eTup (aCons (eVar 8) (aCons (eCall f_bprice (aCons (eB2 oIx (eVar 2) (eB2 oAdd (eB2 oMul (eC (.int 2)) (eVar 7)) (eC (.int 5)))) (aCons (eVar 4) (aCons (eVar 0) aNil)))) aNil)) [some (.int c), some mo, some (.lst XD), some (.int (n : Nat)), some (.bl w), some (.int (t : Nat)), some (.lst (L.map rdo)), some (.int ((a + 1 : Nat) : Int)), some (.int (to : Nat))] = .ok (rd (to, p, q)) := by
    rw [eTup_ap, aCons_ap, show eVar 8 [some (.int c), some mo, some (.lst XD), some (.int (n : Nat)), some (.bl w), some (.int (t : Nat)), some (.lst (L.map rdo)), some (.int ((a + 1 : Nat) : Int)), some (.int (to : Nat))] = .ok (.int (to : Nat)) from rfl, bnd_ok, aCons_ap,
      eCall3_of (eB2_of (x := .lst XD) (y := .int (2 * ((a + 1 : Nat) : Int) + 5)) rfl (eB2_of (eB2_of rfl rfl (oMul_int m2)) rfl (oAdd_int _ _)) (by rw [i2]; exact x5)) rfl rfl ep, bnd_ok, aNil_ap]
    rfl
  rw [ev1, bnd_ok]
  have ev2 : eB2 oMod (eB2 oAdd (eB2 oSub (eVar 7) (eC (.int 1))) (eVar 5)) (eVar 3) [some (.int c), some mo, some (.lst XD), some (.int (n : Nat)), some (.bl w), some (.int (t : Nat)), some (.lst (L.map rdo)), some (.int ((a + 1 : Nat) : Int)), some (.int (to : Nat))] = .ok (.int ((tm n t a : Nat) : Int)) := by
    rw [eB2_of (eB2_of (eB2_of rfl rfl (oSub_int _ _)) rfl (oAdd_int _ _)) rfl (oMod_int nen), ez, ef]
  rw [ev2, bnd_ok]
  show (match ixN (L.map rdo).length ((tm n t a : Nat) : Int) with | some n => _ | none => _) = _
  rw [List.length_map, ixN_nat (by omega)]
  rw [List.map_set]
  rfl
theorem tT_len (n t : Nat) : (tT n t).length = n := by simp [tT]
theorem tT_mem {n t x : Nat} (h : x ∈ tT n t) : ∃ a, a < n ∧ tm n t a + 1 = x := by
  obtain ⟨a, ha, e⟩ := List.mem_map.mp h
  exact ⟨a, List.mem_range.mp ha, e⟩
theorem tm_ex {n t x : Nat} (hx : x < n) (ht : t < n) : ∃ a, a < n ∧ tm n t a = x := by
  by_cases h : t ≤ x
  · exact ⟨x - t, by omega, by unfold tm; split <;> omega⟩
  · exact ⟨x + n - t, by omega, by unfold tm; split <;> omega⟩
theorem broads_of {n t : Nat} (hn : n < 20) (ht : n = 0 ∨ t < n) {Rs : List Rd3} (hl : Rs.length = n) (h : ∀ a, a < n → ∃ r, Rs[tm n t a]? = some r ∧ okR (tT n t) a r) : Roads (tT n t) Rs where
  few := by rw [tT_len]; omega
  nd := by
    unfold tT
    unfold List.Nodup
    rw [List.pairwise_map]
    rcases ht with e | ht
    · subst e; exact .nil
    · have : (List.range n).Pairwise fun a b => a ∈ List.range n ∧ b ∈ List.range n ∧ a ≠ b := by
        refine List.Pairwise.and_mem.mp ?_ |>.imp fun z => ⟨z.1, z.2.1, z.2.2⟩
        exact List.nodup_range
      exact this.imp fun ⟨ha, hb, hne⟩ e => hne (tm_inj (List.mem_range.mp ha) (List.mem_range.mp hb) ht (by omega))
  all x h1 h2 := by
    rw [tT_len] at h2
    obtain ⟨a, ha, e⟩ := tm_ex (n := n) (t := t) (x := x - 1) (by omega) (by omega)
    exact List.mem_map.mpr ⟨a, List.mem_range.mpr ha, by omega⟩
  rng x hx := by
    obtain ⟨a, ha, e⟩ := tT_mem hx
    have := tm_lt (n := n) (t := t) ha (by omega)
    rw [tT_len]
    omega
  len := by rw [tT_len, hl]
  ok j x hj := by
    have hjn : j < n := by have := (List.getElem?_eq_some_iff.mp hj).1; rwa [tT_len] at this
    rw [tT_at hjn] at hj
    have : tm n t j + 1 = x := Option.some.inj hj
    obtain ⟨r, h1, h2⟩ := h j hjn
    exact ⟨r, by rw [← this]; exact h1, h2⟩
theorem all_some {α : Type} : ∀ {L : List (Option α)}, (∀ i, i < L.length → ∃ r, L[i]? = some (some r)) → ∃ Rs : List α, L = Rs.map some
  | [], _ => ⟨[], rfl⟩
  | x :: L, h => by
    obtain ⟨Rs, e⟩ := all_some (L := L) fun i hi => by
      obtain ⟨r, hr⟩ := h (i + 1) (by simpa using hi)
      exact ⟨r, by simpa using hr⟩
    obtain ⟨r, hr⟩ := h 0 (by simp)
    have : x = some r := by simpa using hr
    exact ⟨r :: Rs, by rw [e, this]; rfl⟩
theorem broads_eq {c : Int} (hc : Sz c) {most : Nat} (h7 : 0 < most) (h20 : most ≤ 20) : ∃ (T : List Nat) (Rs : List Rd3), Roads T Rs ∧ Rs.length < 20 ∧ Rs.length < most ∧ (∀ r, r ∈ Rs → sm r) ∧ f_broads [.int c, .int most] = .ok (.lst (Rs.map rd)) := by
  obtain ⟨X, hX, hB, eX⟩ := bnum_eq c (m := 2 * most + 6) (by omega)
  have x0 := xs_at (X := X) (i := 0) (by omega)
  have x1 := xs_at (X := X) (i := 1) (by omega)
  have x2 := xs_at (X := X) (i := 2) (by omega)
  generalize X[0] = y0 at x0
  generalize X[1] = y1 at x1
  generalize X[2] = y2 at x2
  have nem : ((most : Nat) : Int) ≠ 0 := by omega
  have a1 := Int.fmod_nonneg_of_pos y0 (b := ((most : Nat) : Int)) (by omega)
  have a2 := Int.fmod_lt_of_pos y0 (b := ((most : Nat) : Int)) (by omega)
  obtain ⟨m, hm⟩ : ∃ m : Nat, y0.fmod ((most : Nat) : Int) = m := ⟨_, (Int.toNat_of_nonneg a1).symm⟩
  rw [hm] at a2
  generalize hw : decide (y1.fmod 6 = 3) = w
  obtain ⟨n, hnm, s4⟩ : ∃ n : Nat, n ≤ m ∧ sIf (tV (eVar 4)) (sAs 3 (eBi oMin (aCons (eVar 3) (aCons (eC (.int 4)) aNil)))) sNil [some (.int c), some (.int (most : Nat)), some (.lst (X.map .int)), some (.int (m : Nat)), some (.bl w), none, none, none, none] = .ok (.nx [some (.int c), some (.int (most : Nat)), some (.lst (X.map .int)), some (.int (n : Nat)), some (.bl w), none, none, none, none]) := by
    cases w with
    | true =>
      by_cases h : m ≤ 4
      · refine ⟨m, Nat.le_refl _, ?_⟩
        have e : oMin [.int (m : Nat), .int 4] = some (.int (m : Nat)) := by rw [oMin_int, if_neg (by omega)]
        generalize X.map D.int = XD at *
        simp [e]
      · refine ⟨4, by omega, ?_⟩
        have e : oMin [.int (m : Nat), .int 4] = some (.int (4 : Nat)) := by rw [oMin_int, if_pos (by omega)]; rfl
        generalize X.map D.int = XD at *
        simp [e]
    | false => exact ⟨m, Nat.le_refl _, rfl⟩
  have hn : n < 20 := by omega
  obtain ⟨t, ht, et⟩ : ∃ t : Nat, (n = 0 ∨ t < n) ∧ eB2 oMod (eB2 oIx (eVar 2) (eC (.int 2))) (eBi oMax (aCons (eC (.int 1)) (aCons (eVar 3) aNil))) [some (.int c), some (.int (most : Nat)), some (.lst (X.map .int)), some (.int (n : Nat)), some (.bl w), none, none, none, none] = .ok (.int (t : Nat)) := by
    obtain ⟨k, hk1, hk2, hk⟩ : ∃ k : Nat, 0 < k ∧ (n = 0 ∨ k = n) ∧ oMax [.int 1, .int (n : Nat)] = some (.int (k : Nat)) := by
      by_cases h : n ≤ 1
      · exact ⟨1, by decide, by omega, by
          show some (D.int (if (1 : Int) < (n : Nat) then (n : Nat) else 1)) = _
          rw [if_neg (by omega)]; rfl⟩
      · exact ⟨n, by omega, .inr rfl, by
          show some (D.int (if (1 : Int) < (n : Nat) then (n : Nat) else 1)) = _
          rw [if_pos (by omega)]⟩
    have b1 := Int.fmod_nonneg_of_pos y2 (b := (k : Nat)) (by omega)
    have b2 := Int.fmod_lt_of_pos y2 (b := (k : Nat)) (by omega)
    obtain ⟨t, ht⟩ : ∃ t : Nat, y2.fmod ((k : Nat) : Int) = t := ⟨_, (Int.toNat_of_nonneg b1).symm⟩
    rw [ht] at b2
    refine ⟨t, by omega, ?_⟩
    have e2 : oIx (.lst (X.map .int)) (.int 2) = some (.int y2) := x2
    rw [eB2_of (eB2_of rfl rfl e2) (by
      rw [eBi_ap, aCons_ap, eC_ap, bnd_ok, aCons_ap]
      show bnd (bnd (bnd (Except.ok (D.int (n : Nat))) _) _) _ = _
      rw [bnd_ok, aNil_ap, bnd_ok, bnd_ok, bnd_ok, hk]
      rfl) (oMod_int (by omega)), ht]
  have enL : evLc (set1 7) (fun _ => .ok true) (eC .non) (wipE [7] [some (.int c), some (.int (most : Nat)), some (.lst (X.map .int)), some (.int (n : Nat)), some (.bl w), some (.int (t : Nat)), none, none, none]) (tn (List.range n)) = .ok ((List.replicate n none).map rdo) := by
    have e : (List.replicate n (none : Option Rd3)).map rdo = (List.range n).map fun _ => D.non := by
      apply List.ext_getElem?
      intro i
      by_cases h : i < n
      · rw [List.getElem?_map, List.getElem?_map, List.getElem?_range h, List.getElem?_replicate_of_lt h]; rfl
      · rw [List.getElem?_eq_none (by simp; omega), List.getElem?_eq_none (by simp; omega)]
    rw [e]
    exact evLc_map (q := fun k : Nat => D.int k) (r := fun _ => D.non) (List.range n) fun k hk => ⟨_, rfl, rfl⟩
  obtain ⟨en', q1, L, o7, o8, he, hL, hok⟩ := evFor_ix (set := set1 7) (body := bBr) (P := fun i en => ∃ (L : List (Option Rd3)) (o7 o8 : Option D), en = [some (.int c), some (.int (most : Nat)), some (.lst (X.map .int)), some (.int (n : Nat)), some (.bl w), some (.int (t : Nat)), some (.lst (L.map rdo)), o7, o8] ∧ L.length = n ∧ ∀ a, a < i → ∃ r, L[tm n t a]? = some (some r) ∧ okR (tT n t) a r ∧ sm r) (tn (crs n)) 0
    [some (.int c), some (.int (most : Nat)), some (.lst (X.map .int)), some (.int (n : Nat)), some (.bl w), some (.int (t : Nat)), some (.lst ((List.replicate n none).map rdo)), none, none] ⟨_, _, _, rfl, by simp, fun a ha => by omega⟩ (fun j d en hj ⟨L, o7, o8, he, hL, hok⟩ => by
      subst he
      obtain ⟨k, hk, rfl⟩ := tn_ix hj
      have hjn : j < n := by have := (List.getElem?_eq_some_iff.mp hk).1; rwa [crs_len] at this
      have hk2 : k = j + 1 := by
        unfold crs at hk
        rw [List.getElem?_map, List.getElem?_range hjn] at hk
        exact (Option.some.inj hk).symm
      subst hk2
      obtain ⟨r, hr, hsr, o8', e⟩ := bBr_eq hc (mo := .int (most : Nat)) hB (w := w) (o8 := o8) hL hjn (by omega : t < n) hn (by rw [hX]; omega)
      refine ⟨_, _, rfl, e, _, _, _, rfl, by rw [List.length_set]; exact hL, fun a ha => ?_⟩
      by_cases haj : a = j
      · subst haj
        exact ⟨r, List.getElem?_set_self (by rw [hL]; exact tm_lt hjn (by omega)), hr, hsr⟩
      · obtain ⟨r', h1, h2⟩ := hok a (by omega)
        refine ⟨r', ?_, h2⟩
        rw [List.getElem?_set_ne (fun e => haj (tm_inj (by omega) hjn (by omega) e.symm)), h1])
  subst he
  rw [tn_len, crs_len, Nat.zero_add] at hok
  have hsome : ∀ i, i < L.length → ∃ r, L[i]? = some (some r) := fun i hi => by
    obtain ⟨a, ha, e⟩ := tm_ex (n := n) (t := t) (x := i) (by omega) (by omega)
    obtain ⟨r, h1, _⟩ := hok a ha
    exact ⟨r, by rw [← e]; exact h1⟩
  obtain ⟨Rs, rfl⟩ := all_some hsome
  have hRl : Rs.length = n := by simpa using hL
  refine ⟨tT n t, Rs, broads_of hn ht hRl fun a ha => ?_, by omega, by omega, fun r hr => ?_, ?_⟩
  rotate_left
  · obtain ⟨i, hi⟩ := List.mem_iff_getElem?.mp hr
    have hin := (List.getElem?_eq_some_iff.mp hi).1
    obtain ⟨a, ha, e⟩ := tm_ex (n := n) (t := t) (x := i) (by omega) (by omega)
    obtain ⟨r', h1, _, h3⟩ := hok a ha
    rw [e, List.getElem?_map, hi] at h1
    cases h1
    exact h3
  rotate_left
  · obtain ⟨r, h1, h2, _⟩ := hok a ha
    refine ⟨r, ?_, h2⟩
    rw [List.getElem?_map] at h1
    obtain ⟨x, hx, e⟩ := Option.map_eq_some_iff.mp h1
    cases e
    exact hx
  · have rg := oRng_nat (m := n) (by omega)
    rw [← tn_range] at rg
    have rg2 := oRng_crs (n := n) (by omega)
    have eR : (Rs.map some).map rdo = Rs.map rd := by rw [List.map_map]; rfl
    rw [eR] at q1
    have im : 2 * ((most : Nat) : Int) + 6 = ((2 * most + 6 : Nat) : Int) := by omega
    have m2 : mulOk 2 ((most : Nat) : Int) = true := mulOk_l (by decide)
    have e0 : oIx (.lst (X.map .int)) (.int 0) = some (.int y0) := x0
    have e1 : oIx (.lst (X.map .int)) (.int 1) = some (.int y1) := x1
    unfold f_broads
    rw [runF_ap]
    show endR (s_broads [some (.int c), some (.int (most : Nat)), none, none, none, none, none, none, none]) = _
    unfold s_broads
    refine step_nx (en' := [some (.int c), some (.int (most : Nat)), some (.lst (X.map .int)), none, none, none, none, none, none]) (sAs_of (eCall2_of rfl (eB2_of (eFl_of (eB2_of rfl rfl (oMul_int m2)) (flat_int _)) rfl (oAdd_int _ _)) (by rw [im]; exact eX))) ?_
    refine step_nx (en' := [some (.int c), some (.int (most : Nat)), some (.lst (X.map .int)), some (.int (m : Nat)), none, none, none, none, none]) (by
      rw [sAs_of (eB2_of (eB2_of rfl rfl e0) rfl (oMod_int nem)), hm]
      rfl) ?_
    refine step_nx (en' := [some (.int c), some (.int (most : Nat)), some (.lst (X.map .int)), some (.int (m : Nat)), some (.bl w), none, none, none, none]) (by
      rw [sAs_of (eB2_of (eB2_of (eB2_of rfl rfl e1) rfl (oMod_int (by decide))) rfl (oEq_int _ _)), hw]
      rfl) ?_
    refine step_nx s4 ?_
    refine step_nx (sAs_of et) ?_
    refine step_nx (en' := [some (.int c), some (.int (most : Nat)), some (.lst (X.map .int)), some (.int (n : Nat)), some (.bl w), some (.int (t : Nat)), some (.lst ((List.replicate n none).map rdo)), none, none]) (sAs_of (eLc_ap (iRn1_of rfl rg) enL (by simp; omega))) ?_
    refine step_nx (sFor_of (iRn2_of rfl (eB2_of rfl rfl (oAdd_int _ _)) rg2) q1) ?_
    rfl
end Co
end
noncomputable section
namespace Co
open PySem PySem.Spec PyProof.Rows L2 Pi
/-! ### family B: names and homes -/
def s_bname : EvS := (sSeq (sAs 2 (eC (.str abc)))
  (sSeq (sAs 3 (eB2 oAdd (eC (.int 1)) (eB2 oMod (eFl (eB2 oAdd (eVar 1) (eFl (eB2 oMul (eVar 0) (eB2 oMod (eVar 1) (eC (.int 2))))))) (eC (.int 8)))))
  (sSeq (sAs 4 (eB2 oMod (eB2 oDiv (eVar 1) (eC (.int 8))) (eVar 3)))
  (sSeq (sAs 5 (eC (.str "")))
  (sSeq (sFor (iRn (aCons (eVar 3) aNil)) (set1 6)
    (sSeq (sAs 7 (eB2 oAdd (eB2 oDiv (eVar 1) (eC (.int 64))) (eB2 oMul (eVar 6) (eB2 oMod (eB2 oDiv (eVar 1) (eC (.int 7))) (eC (.int 3))))))
  (sSeq (sIf (tV (eB2 oEq (eVar 6) (eVar 4)))
    (sAs 7 (eFl (eB2 oAdd (eVar 7) (eVar 0))))
    sNil)
  (sAs 5 (eB2 oAdd (eVar 5) (eB2 oIx (eVar 2) (eB2 oMod (eVar 7) (eC (.int 26)))))))))
  (sRet (eVar 5)))))))
def f_bname : List D → Rs D := runF 6 s_bname
def s_bhomes : EvS := (sSeq (sAs 3 (eCall f_bnum (aCons (eVar 0) (aCons (eFl (eB2 oAdd (eVar 2) (eC (.int 2)))) aNil))))
  (sSeq (sAs 4 (eC (.dct [] [])))
  (sSeq (sFor (iRn (aCons (eB2 oMod (eB2 oIx (eVar 3) (eC (.int 0))) (eFl (eB2 oAdd (eVar 2) (eC (.int 1))))) aNil)) (set1 5)
    (sDSub 4 (eCall f_bname (aCons (eB2 oMod (eB2 oMul (eVar 5) (eB2 oAdd (eC (.int 1)) (eB2 oMod (eB2 oIx (eVar 3) (eC (.int 1))) (eC (.int 5))))) (eC (.int 26))) (aCons (eB2 oIx (eVar 3) (eC (.int 1))) aNil))) (eB2 oMod (eB2 oIx (eVar 3) (eB2 oAdd (eVar 5) (eC (.int 2)))) (eVar 1))))
  (sRet (eVar 4)))))
def f_bhomes : List D → Rs D := runF 3 s_bhomes
/-- a text of some letters -/
def tx (w : List Nat) : Str := ⟨w.toArray⟩
theorem tx_len (w : List Nat) : (tx w).length = w.length := by simp [tx, Str.length]
theorem tx_snoc (w : List Nat) (c : Nat) : tx w ++ let1 c = tx (w ++ [c]) := by
  show (⟨w.toArray ++ #[c]⟩ : Str) = ⟨(w ++ [c]).toArray⟩
  simp
def ltr (c : Nat) : Prop := c ∈ abc.cps.toList
theorem abc_at2 {i : Int} (h0 : 0 ≤ i) (h : i < 26) : ∃ c : Nat, ltr c ∧ oIx (.str abc) (.int i) = some (.str (let1 c)) := by
  obtain ⟨n, rfl⟩ : ∃ n : Nat, i = n := ⟨i.toNat, by omega⟩
  have hl : abc.cps.toList.length = 26 := by have := abc_len; simpa [Str.length] using this
  have hn : n < abc.cps.toList.length := by omega
  refine ⟨abc.cps.toList[n], List.getElem_mem hn, ?_⟩
  have sz : abc.length ≤ sizeLine := by rw [abc_len, sizeLine_eq]; decide
  have at_ := atI_nat hn
  generalize abc = z at *
  show (if z.length ≤ sizeLine then (L2.atI z.cps.toList (n : Int)).map fun c => D.str ⟨#[c]⟩ else none) = _
  rw [if_pos sz, at_]
  rfl
/-- a good name -/
def nm (x : Str) : Prop := ∃ w : List Nat, x = tx w ∧ 1 ≤ w.length ∧ w.length ≤ 8 ∧ ∀ c, c ∈ w → ltr c
abbrev bBn : EvS := (sSeq (sAs 7 (eB2 oAdd (eB2 oDiv (eVar 1) (eC (.int 64))) (eB2 oMul (eVar 6) (eB2 oMod (eB2 oDiv (eVar 1) (eC (.int 7))) (eC (.int 3))))))
  (sSeq (sIf (tV (eB2 oEq (eVar 6) (eVar 4)))
    (sAs 7 (eFl (eB2 oAdd (eVar 7) (eVar 0))))
    sNil)
  (sAs 5 (eB2 oAdd (eVar 5) (eB2 oIx (eVar 2) (eB2 oMod (eVar 7) (eC (.int 26))))))))
theorem bBn_eq {k s sp : Int} {n : Option D} {w : List Nat} {j : Nat} {o7 : Option D} (hw : w.length < 900) (hj : j < 1000) : ∃ (c : Nat) (o7' : Option D), ltr c ∧
    bBn [some (.int k), some (.int s), some (.str abc), n, some (.int sp), some (.str (tx w)), some (.int (j : Nat)), o7] = .ok (.nx [some (.int k), some (.int s), some (.str abc), n, some (.int sp), some (.str (tx (w ++ [c]))), some (.int (j : Nat)), o7']) := by
  have d64 : oDiv (.int s) (.int 64) = some (.int (s.fdiv 64)) := oDiv_int (divOk_of (m := 7) (by decide) (by decide) (by decide) (by decide))
  have d7 : oDiv (.int s) (.int 7) = some (.int (s.fdiv 7)) := oDiv_int (divOk_of (m := 7) (by decide) (by decide) (by decide) (by decide))
  have m1 : mulOk (j : Int) ((s.fdiv 7).fmod 3) = true := mulOk_l (by omega)
  obtain ⟨x, o, e2⟩ : ∃ (x : Int) (u : Unit), sSeq (sAs 7 (eB2 oAdd (eB2 oDiv (eVar 1) (eC (.int 64))) (eB2 oMul (eVar 6) (eB2 oMod (eB2 oDiv (eVar 1) (eC (.int 7))) (eC (.int 3)))))) (sIf (tV (eB2 oEq (eVar 6) (eVar 4)))
    (sAs 7 (eFl (eB2 oAdd (eVar 7) (eVar 0))))
    sNil) [some (.int k), some (.int s), some (.str abc), n, some (.int sp), some (.str (tx w)), some (.int (j : Nat)), o7] = .ok (.nx [some (.int k), some (.int s), some (.str abc), n, some (.int sp), some (.str (tx w)), some (.int (j : Nat)), some (.int x)]) := by
    generalize abc = z
    generalize tx w = W
    generalize (j : Int) = J at *
    by_cases h : J = sp
    · subst h
      exact ⟨_, (), by simp [d64, d7, oMod_int, oMul_int m1]; rfl⟩
    · exact ⟨_, (), by simp [d64, d7, oMod_int, oMul_int m1, h]; rfl⟩
  have h0 := Int.fmod_nonneg_of_pos x (b := 26) (by decide)
  have h1 := Int.fmod_lt_of_pos x (b := 26) (by decide)
  obtain ⟨c, hc, ec⟩ := abc_at2 h0 h1
  refine ⟨c, some (.int x), hc, ?_⟩
  have ad : oAdd (.str (tx w)) (.str (let1 c)) = some (.str (tx (w ++ [c]))) := by
    show (if (tx w).length + (let1 c).length ≤ sizeLine then some (D.str (tx w ++ let1 c)) else none) = _
    rw [if_pos (by rw [tx_len, sizeLine_eq]; show w.length + 1 ≤ _; omega), tx_snoc]
  have last : sAs 5 (eB2 oAdd (eVar 5) (eB2 oIx (eVar 2) (eB2 oMod (eVar 7) (eC (.int 26))))) [some (.int k), some (.int s), some (.str abc), n, some (.int sp), some (.str (tx w)), some (.int (j : Nat)), some (.int x)] = .ok (.nx [some (.int k), some (.int s), some (.str abc), n, some (.int sp), some (.str (tx (w ++ [c]))), some (.int (j : Nat)), some (.int x)]) :=
    sAs_of (eB2_of rfl (eB2_of rfl (eB2_of rfl rfl (oMod_int (by decide))) ec) ad)
  unfold bBn
  rw [sSeq_ap] at e2 ⊢
  revert e2
  cases h : sAs 7 (eB2 oAdd (eB2 oDiv (eVar 1) (eC (.int 64))) (eB2 oMul (eVar 6) (eB2 oMod (eB2 oDiv (eVar 1) (eC (.int 7))) (eC (.int 3))))) [some (.int k), some (.int s), some (.str abc), n, some (.int sp), some (.str (tx w)), some (.int (j : Nat)), o7] with
  | error e => intro z; cases z
  | ok fl =>
    rw [bnd_ok, bnd_ok]
    cases fl with
    | nx en => intro z; show sSeq _ _ en = _; rw [seq_nx z]; exact last
    | _ => intro z; cases z
theorem bname_eq (k s : Int) : ∃ x : Str, nm x ∧ f_bname [.int k, .int s] = .ok (.str x) := by
  have m1 : mulOk k (s.fmod 2) = true := mulOk_r (by have := Int.fmod_nonneg_of_pos s (b := 2) (by decide); have := Int.fmod_lt_of_pos s (b := 2) (by decide); omega)
  have a0 := Int.fmod_nonneg_of_pos (s + k * s.fmod 2) (b := 8) (by decide)
  have a1 := Int.fmod_lt_of_pos (s + k * s.fmod 2) (b := 8) (by decide)
  obtain ⟨n, hn⟩ : ∃ n : Nat, 1 + (s + k * s.fmod 2).fmod 8 = n := ⟨(1 + (s + k * s.fmod 2).fmod 8).toNat, by omega⟩
  have d8 : oDiv (.int s) (.int 8) = some (.int (s.fdiv 8)) := oDiv_int (divOk_of (m := 7) (by decide) (by decide) (by decide) (by decide))
  have nn : ((n : Nat) : Int) ≠ 0 := by omega
  obtain ⟨en', q1, w, o6, o7, he, hl, hc⟩ := evFor_ix (set := set1 6) (body := bBn) (P := fun i en => ∃ (w : List Nat) (o6 o7 : Option D), en = [some (.int k), some (.int s), some (.str abc), some (.int (n : Nat)), some (.int ((s.fdiv 8).fmod (n : Nat))), some (.str (tx w)), o6, o7] ∧ w.length = i ∧ ∀ c, c ∈ w → ltr c) (tn (List.range n)) 0
    [some (.int k), some (.int s), some (.str abc), some (.int (n : Nat)), some (.int ((s.fdiv 8).fmod (n : Nat))), some (.str (tx [])), none, none] ⟨[], none, none, rfl, rfl, fun c h => by cases h⟩ (fun j d en hj ⟨w, o6, o7, he, hl, hc⟩ => by
      subst he
      obtain ⟨i, hi, rfl⟩ := tn_ix hj
      have hin : i < n := List.mem_range.mp (List.mem_of_getElem? hi)
      have hjn : j < n := by have := (List.getElem?_eq_some_iff.mp hi).1; simpa using this
      obtain ⟨c, o7', h1, h2⟩ := bBn_eq (k := k) (s := s) (sp := (s.fdiv 8).fmod (n : Nat)) (n := some (.int (n : Nat))) (w := w) (j := i) (o7 := o7) (by omega) (by omega)
      refine ⟨_, _, rfl, h2, w ++ [c], _, _, rfl, by simp; omega, fun y hy => ?_⟩
      rcases List.mem_append.mp hy with h | h
      · exact hc y h
      · have : y = c := by simpa using h
        rw [this]; exact h1)
  subst he
  have hl' : w.length = n := by simpa [tn] using hl
  refine ⟨tx w, ⟨w, rfl, by omega, by omega, hc⟩, ?_⟩
  have rg := oRng_nat (m := n) (by omega)
  rw [← tn_range] at rg
  have eE : (Str.ofString "" : Str) = tx [] := by decide +kernel
  unfold f_bname
  rw [runF_ap]
  show endR (s_bname [some (.int k), some (.int s), none, none, none, none, none, none]) = _
  unfold s_bname
  refine step_nx (en' := [some (.int k), some (.int s), some (.str abc), none, none, none, none, none]) rfl ?_
  refine step_nx (en' := [some (.int k), some (.int s), some (.str abc), some (.int (n : Nat)), none, none, none, none]) (by
    rw [sAs_of (eB2_of rfl (eB2_of (eFl_of (eB2_of rfl (eFl_of (eB2_of rfl (eB2_of rfl rfl (oMod_int (by decide))) (oMul_int m1)) (flat_int _)) (oAdd_int _ _)) (flat_int _)) rfl (oMod_int (by decide))) (oAdd_int _ _)), hn]
    rfl) ?_
  refine step_nx (en' := [some (.int k), some (.int s), some (.str abc), some (.int (n : Nat)), some (.int ((s.fdiv 8).fmod (n : Nat))), none, none, none]) (sAs_of (eB2_of (eB2_of rfl rfl d8) rfl (oMod_int nn))) ?_
  refine step_nx (en' := [some (.int k), some (.int s), some (.str abc), some (.int (n : Nat)), some (.int ((s.fdiv 8).fmod (n : Nat))), some (.str (tx [])), none, none]) (by rw [← eE]; rfl) ?_
  refine step_nx (sFor_of (iRn1_of rfl rg) q1) ?_
  rfl
theorem putH_keys {h : Hms} {x : Str} {v : Nat} {P : Str → Prop} (hP : ∀ y, y ∈ h.map (·.1) → P y) (hx : P x) : ∀ y, y ∈ (putH h x v).map (·.1) → P y := by
  unfold putH
  split
  · have e : (h.map fun p => if p.1 = x then (p.1, v) else p).map (·.1) = h.map (·.1) := by
      rw [List.map_map]
      apply List.map_congr_left
      intro a _
      show (if a.1 = x then (a.1, v) else a).1 = a.1
      split <;> rfl
    rw [e]
    exact hP
  · intro y hy
    rw [List.map_append, List.mem_append] at hy
    rcases hy with hy | hy
    · exact hP y hy
    · have : y = x := by simpa using hy
      rw [this]; exact hx
theorem bhomes_eq (c : Int) {n : Nat} (hn : n ≤ 40) {most : Nat} (hm : most < 50) : ∃ h : Hms, Hm n h ∧ h.length ≤ most ∧ (∀ x, x ∈ h.map (·.1) → nm x) ∧ f_bhomes [.int c, .int ((n : Int) + 1), .int most] = .ok (homesD h) := by
  obtain ⟨X, hX, hB, eX⟩ := bnum_eq c (m := most + 2) (by omega)
  have x0 := xs_at (X := X) (i := 0) (by omega)
  have x1 := xs_at (X := X) (i := 1) (by omega)
  generalize X[0] = y0 at x0
  generalize X[1] = y1 at x1
  have e0 : oIx (.lst (X.map .int)) (.int 0) = some (.int y0) := x0
  have e1 : oIx (.lst (X.map .int)) (.int 1) = some (.int y1) := x1
  have a0 := Int.fmod_nonneg_of_pos y0 (b := (most : Int) + 1) (by omega)
  have a1 := Int.fmod_lt_of_pos y0 (b := (most : Int) + 1) (by omega)
  obtain ⟨m, em⟩ : ∃ m : Nat, y0.fmod ((most : Int) + 1) = m := ⟨(y0.fmod ((most : Int) + 1)).toNat, by omega⟩
  rw [em] at a1
  have hz : (most : Int) + 1 ≠ 0 := by omega
  have hnz : (n : Int) + 1 ≠ 0 := by omega
  obtain ⟨en', q1, h, o5, he, ⟨hnd, hle⟩, hlen, hnm⟩ := evFor_ix (set := set1 5) (body := (sDSub 4 (eCall f_bname (aCons (eB2 oMod (eB2 oMul (eVar 5) (eB2 oAdd (eC (.int 1)) (eB2 oMod (eB2 oIx (eVar 3) (eC (.int 1))) (eC (.int 5))))) (eC (.int 26))) (aCons (eB2 oIx (eVar 3) (eC (.int 1))) aNil))) (eB2 oMod (eB2 oIx (eVar 3) (eB2 oAdd (eVar 5) (eC (.int 2)))) (eVar 1))))
    (P := fun i en => ∃ (h : Hms) (o5 : Option D), en = [some (.int c), some (.int ((n : Int) + 1)), some (.int most), some (.lst (X.map .int)), some (homesD h), o5] ∧ ((h.map (·.1)).Nodup ∧ ∀ p, p ∈ h → p.2 ≤ n) ∧ h.length ≤ i ∧ ∀ x, x ∈ h.map (·.1) → nm x) (tn (List.range m)) 0
    [some (.int c), some (.int ((n : Int) + 1)), some (.int most), some (.lst (X.map .int)), some (.dct [] []), none] ⟨[], none, rfl, ⟨List.nodup_nil, fun p hp => by cases hp⟩, Nat.le_refl _, fun x hx => by cases hx⟩ (fun j d e hj ⟨h, o5, he, ⟨hnd, hle⟩, hl, hnm⟩ => by
      subst he
      obtain ⟨k, hk, rfl⟩ := tn_ix hj
      have hkm : k < m := List.mem_range.mp (List.mem_of_getElem? hk)
      have hjm : j < m := by have := (List.getElem?_eq_some_iff.mp hk).1; simpa using this
      have xk := xs_at (X := X) (i := k + 2) (by omega)
      generalize X[k + 2] = v at xk
      have ik : ((k : Nat) : Int) + 2 = ((k + 2 : Nat) : Int) := by omega
      have b0 := Int.fmod_nonneg_of_pos v (b := (n : Int) + 1) (by omega)
      have b1 := Int.fmod_lt_of_pos v (b := (n : Int) + 1) (by omega)
      obtain ⟨u, eu⟩ : ∃ u : Nat, v.fmod ((n : Int) + 1) = u := ⟨(v.fmod ((n : Int) + 1)).toNat, by omega⟩
      have m1 : mulOk (k : Int) (1 + y1.fmod 5) = true := mulOk_l (by omega)
      obtain ⟨x, hx, ex⟩ := bname_eq (((k : Int) * (1 + y1.fmod 5)).fmod 26) y1
      have pl := putH_len h x u
      refine ⟨_, [some (.int c), some (.int ((n : Int) + 1)), some (.int most), some (.lst (X.map .int)), some (homesD (putH h x u)), some (.int (k : Nat))], rfl, ?_, putH h x u, _, rfl, ⟨putH_nd x u hnd, putH_le x hle (by omega)⟩, by omega, putH_keys hnm hx⟩
      rw [sDSub_of (ks := hmK h) (l := hmV h) (d := .int (u : Nat)) (kd := .str x) (k := .inr x) rfl (by
          rw [eB2_of (eB2_of rfl (eB2_of rfl rfl (oAdd_int _ _)) (by rw [ik]; exact xk)) rfl (oMod_int hnz), eu]) (eCall2_of (eB2_of (eB2_of rfl (eB2_of rfl (eB2_of (eB2_of rfl rfl e1) rfl (oMod_int (by decide))) (oAdd_int _ _)) (oMul_int m1)) rfl (oMod_int (by decide))) (eB2_of rfl rfl e1) ex) rfl (by rw [hmK_len]; omega), dPut_hm]
      rfl)
  subst he
  have hlen' : h.length ≤ m := by simpa [tn] using hlen
  refine ⟨h, ⟨hnd, hle, by omega⟩, by omega, hnm, ?_⟩
  have rg := oRng_nat (m := m) (by omega)
  rw [← tn_range] at rg
  have i2 : ((most : Nat) : Int) + 2 = ((most + 2 : Nat) : Int) := by omega
  unfold f_bhomes
  rw [runF_ap]
  show endR (s_bhomes [some (.int c), some (.int ((n : Int) + 1)), some (.int most), none, none, none]) = _
  unfold s_bhomes
  refine step_nx (en' := [some (.int c), some (.int ((n : Int) + 1)), some (.int most), some (.lst (X.map .int)), none, none]) (sAs_of (eCall2_of rfl (eFl_of (eB2_of rfl rfl (oAdd_int _ _)) (flat_int _)) (by rw [i2]; exact eX))) ?_
  refine step_nx (en' := [some (.int c), some (.int ((n : Int) + 1)), some (.int most), some (.lst (X.map .int)), some (.dct [] []), none]) rfl ?_
  refine step_nx (sFor_of (iRn1_of (i := .int (m : Nat)) (by
    rw [eB2_of (eB2_of rfl rfl e0) (eFl_of (eB2_of rfl rfl (oAdd_int _ _)) (flat_int _)) (oMod_int hz), em]) rg) q1) ?_
  rfl
end Co
end
noncomputable section
namespace Co
open PySem PySem.Spec PyProof.Rows L2 Pi
/-! ### sorted villages -/
def nms (h : Hms) : List Str := srtS (h.map (·.1))
theorem nms_mem {h : Hms} {x : Str} : x ∈ nms h ↔ x ∈ h.map (·.1) := (srtS_perm _).mem_iff
theorem nms_len (h : Hms) : (nms h).length = h.length := by
  have := (srtS_perm (h.map (·.1))).length_eq
  rwa [List.length_map] at this
theorem nms_nd {h : Hms} (nd : (h.map (·.1)).Nodup) : (nms h).Nodup := (srtS_perm _).nodup_iff.mpr nd
theorem strsK_hm (h : Hms) : strsK (hmK h) = some (h.map (·.1)) := by
  induction h with
  | nil => rfl
  | cons p h ih => show (strsK (hmK h)).map (p.1 :: ·) = _; rw [ih]; rfl
theorem oSrtD_hm {n : Nat} {h : Hms} (hh : Hm n h) : oSrtD [homesD h] = some (.lst (ts (nms h))) := by
  have few := hh.few
  show (match strsK (hmK h) with
    | some xs => if xs.length < 64 then some (D.lst ((srtS xs).map .str)) else none
    | none => none) = _
  rw [strsK_hm]
  show (if (h.map (·.1)).length < 64 then _ else _) = _
  rw [if_pos (by rw [List.length_map]; omega)]
  rfl
theorem srtS_filter (xs : List Str) (p : Str → Bool) : srtS (xs.filter p) = (srtS xs).filter p :=
  List.Perm.eq_of_pairwise (le := fun a b => leS a b = true) (fun a b _ _ h1 h2 => leS_anti h1 h2) (srtS_pw _) ((srtS_pw xs).filter p) ((srtS_perm _).trans ((srtS_perm xs).filter p).symm)
/-- the users of a road, sorted -/
def usS (Rs : List Rd3) (h : Hms) (k : Nat) : List Str := (nms h).filter fun x => decide (k ∈ wy Rs (home h x))
theorem usS_eq {Rs : List Rd3} {h : Hms} (hh : Hm Rs.length h) {k : Nat} (h1 : 1 ≤ k) : srtS (usr Rs h k) = usS Rs h k := by
  unfold usr usS
  rw [srtS_filter]
  apply List.filter_congr
  intro x hx
  have hm := nms_mem.mp hx
  have hle := home_le hh hm
  exact decide_eq_decide.mpr (ben_mem h1 hle)
theorem usS_len (Rs : List Rd3) {n : Nat} {h : Hms} (hh : Hm n h) (k : Nat) : (usS Rs h k).length < 60 := by
  have : (usS Rs h k).length ≤ (nms h).length := List.length_filter_le _ _
  have := hh.few
  rw [nms_len] at *
  omega
theorem need_us {Rs : List Rd3} {h : Hms} : need Rs h (nms h) = (crs Rs.length).filter fun k => decide (usS Rs h k ≠ []) := by
  unfold need
  apply List.filter_congr
  intro k _
  rw [Bool.eq_iff_iff, List.any_eq_true, decide_eq_true_eq]
  unfold usS
  constructor
  · rintro ⟨x, hx, hk⟩ e
    have : x ∈ (nms h).filter fun x => decide (k ∈ wy Rs (home h x)) := List.mem_filter.mpr ⟨hx, hk⟩
    rw [e] at this
    cases this
  · intro e
    obtain ⟨x, hx⟩ := List.exists_mem_of_ne_nil _ e
    exact ⟨x, (List.mem_filter.mp hx).1, (List.mem_filter.mp hx).2⟩
/-! ### the even table -/
/-- what each user of a road pays for it -/
def evq (Rs : List Rd3) (h : Hms) (k : Nat) : Rat := Rat.divInt (pr Rs k).num ((pr Rs k).den * ((usS Rs h k).length : Nat) : Int)
abbrev ERow := Nat × Str × Rat
def rowD (r : ERow) : D := .tup [.int (r.1 : Nat), .str r.2.1, rD r.2.2]
/-- the rows of one road -/
def evr (Rs : List Rd3) (h : Hms) (k : Nat) : List ERow := if usS Rs h k ≠ [] ∧ 0 < (pr Rs k).num then (usS Rs h k).map fun x => (k, x, evq Rs h k) else []
def evt (Rs : List Rd3) (h : Hms) : List ERow := (crs Rs.length).flatMap (evr Rs h)
theorem evr_len {Rs : List Rd3} {n : Nat} {h : Hms} (hh : Hm n h) (k : Nat) : (evr Rs h k).length < 60 := by
  have := usS_len Rs hh k
  unfold evr
  split
  · rw [List.length_map]; exact this
  · decide
theorem evt_len {Rs : List Rd3} {n : Nat} {h : Hms} (hh : Hm n h) (l : List Nat) : (l.flatMap (evr Rs h)).length ≤ 60 * l.length := by
  induction l with
  | nil => exact Nat.le_refl _
  | cons k l ih =>
    have := evr_len (Rs := Rs) hh k
    rw [List.flatMap_cons, List.length_append, List.length_cons]
    omega
theorem foldl_flat {α β : Type} (f : α → List β) : ∀ (l : List α) (s : List β), l.foldl (fun s a => s ++ f a) s = s ++ l.flatMap f
  | [], s => by simp
  | a :: l, s => by rw [List.foldl_cons, foldl_flat f l, List.flatMap_cons, List.append_assoc]
theorem flat_filter {α β : Type} (f : α → List β) (p : α → Bool) (h : ∀ a, p a = false → f a = []) : ∀ l : List α, (l.filter p).flatMap f = l.flatMap f
  | [] => rfl
  | a :: l => by
    rw [List.flatMap_cons]
    cases e : p a with
    | true => rw [List.filter_cons_of_pos e, List.flatMap_cons, flat_filter f p h l]
    | false => rw [List.filter_cons_of_neg (by simp [e]), flat_filter f p h l, h a e, List.nil_append]
theorem num_ne {r : Rat} (h : 0 ≤ r.num) : 0 < r.num ↔ r ≠ 0 := by
  constructor
  · rintro h1 rfl
    exact absurd h1 (by decide)
  · intro h1
    rcases Int.lt_or_le 0 r.num with z | z
    · exact z
    · have : r.num = 0 := by omega
      exact absurd (Rat.num_eq_zero.mp this) h1
theorem oNe_r0 (r : Rat) : oNe (rD r) (.tup [.int 0, .int 1]) = some (.bl (decide (r ≠ 0))) := by
  have e : PyData.eqv (toP (rD r)) (toP (.tup [.int 0, .int 1])) = decide (r = 0) := by
    unfold rD
    rw [Bool.eq_iff_iff, decide_eq_true_eq]
    simp [toP, toPL, PyData.eqv, PyData.eqvAll]
    rintro rfl
    rfl
  show (if _ then some (D.bl (!PyData.eqv (toP (rD r)) (toP (.tup [.int 0, .int 1])))) else none) = _
  rw [if_pos ⟨rfl, rfl⟩, e]
  simp
theorem eSlT_of {a : EvE} {en : En} {x z : D} {j : Int} (h : a en = .ok x) (q : oSlT x none (some j) = some z) : eSlT a oNo (oYes (eC (.int j))) en = .ok z := by
  unfold eSlT
  rw [h, bnd_ok]
  show ofO (oSlT x none (some j)) = _
  rw [q]
  rfl
def s_quot (e : Nat) : EvS := (sRet (eCall (f_ratioE e) (aCons (eFl (eB2 oMul (eB2 oIx (eVar 0) (eC (.int 0))) (eB2 oIx (eVar 1) (eC (.int 1))))) (aCons (eFl (eB2 oMul (eB2 oIx (eVar 0) (eC (.int 1))) (eB2 oIx (eVar 1) (eC (.int 0))))) aNil))))
def f_quot (e : Nat) : List D → Rs D := runF 0 (s_quot e)
theorem quot_len {e : Nat} {r : Rat} {n : Nat} (hr : Rb 210 210 r) (hn : 0 < n) (h : n < 1000) : f_quot e [rD r, .tup [.int (n : Nat), .int 1]] = .ok (rD (Rat.divInt r.num ((r.den : Int) * (n : Nat)))) := by
  have nz : (r.den : Int) * (n : Nat) ≠ 0 := Int.ne_of_gt (Int.mul_pos (den_pos r) (by omega))
  have bn : B 10 ((n : Nat) : Int) := by unfold B; omega
  have k1 : mulOk r.num 1 = true := mulOk_r (by decide)
  have k2 := hr.den.ok bn (by decide) (by decide)
  have q := ratio8 (e := e) (t := r.num) nz ((hr.den.mul bn).mono (by decide))
  rw [fr_rD nz] at q
  unfold rD at q ⊢
  simp [f_quot, s_quot, oMul_int k1, oMul_int k2, q]
/-- a for that carries one thing on, with the number of the turn -/
theorem evFor_ix' {α β γ : Type} {set : En → D → Option En} {body : EvS} (mk : β → γ → En) (f : β → α → β) (q : α → D) (I : Nat → β → Prop) : ∀ (l : List α) (i : Nat) (s : β) (o : γ), I i s → (∀ j s a o, a ∈ l → j < i + l.length → I j s → I (j + 1) (f s a) ∧ ∃ en1, set (mk s o) (q a) = some en1 ∧ ∃ o', body en1 = .ok (.nx (mk (f s a) o'))) →
    ∃ o', evFor set body (l.map q) (mk s o) = .ok (.nx (mk (l.foldl f s) o')) ∧ I (i + l.length) (l.foldl f s)
  | [], i, s, o, h, _ => ⟨o, rfl, h⟩
  | a :: l, i, s, o, h, hb => by
    obtain ⟨h1, en1, h2, o1, h3⟩ := hb i s a o List.mem_cons_self (by simp) h
    obtain ⟨o', q1, q2⟩ := evFor_ix' mk f q I l (i + 1) (f s a) o1 h1 fun j s x o hx hj => hb j s x o (List.mem_cons_of_mem _ hx) (by simp at hj ⊢; omega)
    refine ⟨o', ?_, by rw [List.length_cons, show i + (l.length + 1) = i + 1 + l.length by omega]; exact q2⟩
    show bnd (ofO (set (mk s o) (q a))) _ = _
    rw [h2, ofO_some, bnd_ok, h3, bnd_ok]
    exact q1
abbrev bEv (e1 e2 c : Nat) : EvS := (sSeq (sAs 4 (eMeth c (f_tprice e2 c) (eVar 0) (aCons (eVar 3) aNil)))
  (sIf (tV (eB2 oNe (eVar 4) (eTup (aCons (eC (.int 0)) (aCons (eC (.int 1)) aNil)))))
    (sSeq (sAs 5 (eCall (f_users e2 c) (aCons (eVar 0) (aCons (eVar 1) (aCons (eVar 3) aNil)))))
  (sSeq (sAs 6 (eCall (f_quot e1) (aCons (eVar 4) (aCons (eTup (aCons (eBi oLen (aCons (eVar 5) aNil)) (aCons (eC (.int 1)) aNil))) aNil))))
  (sExt 2 (eLc [7] (iL (eVar 5)) (set1 7) (fun _ => .ok true) (eFl (eTup (aCons (eVar 3) (aCons (eVar 7) (aCons (eFl (eVar 6)) aNil)))))))))
    sNil))
def s_even (e1 e2 c : Nat) : EvS := (sSeq (sAs 2 (eLst aNil))
  (sSeq (sFor (iL (eCall (f_needed e2 c) (aCons (eVar 0) (aCons (eVar 1) (aCons (eBi oSrtD (aCons (eVar 1) aNil)) aNil))))) (set1 3) (bEv e1 e2 c))
  (sRet (eVar 2))))
def f_even (e1 e2 c : Nat) : List D → Rs D := runF 6 (s_even e1 e2 c)
theorem sExt_of {i : Nat} {ev : EvE} {en : En} {l m : List D} (h1 : getL i en = .ok l) (h2 : ev en = .ok (.lst m)) (h3 : l.length + m.length < 1000000) : sExt i ev en = .ok (.nx (en.set i (some (.lst (l ++ m))))) := by
  have e : l.length + m.length ≤ sizeLine := by rw [sizeLine_eq]; omega
  unfold sExt
  rw [h1, bnd_ok, h2, bnd_ok]
  show (if _ then _ else _) = _
  rw [if_pos e]
theorem even_eq {e1 e2 c : Nat} {Rs : List Rd3} (t : Tre Rs) {h : Hms} (hh : Hm Rs.length h) : f_even e1 e2 c [tree c Rs, homesD h] = .ok (.lst ((evt Rs h).map rowD)) := by
  have nd := needed_eq (e := e2) (c := c) t hh (g := nms h) fun x hx => nms_mem.mp hx
  have few := t.few
  let env : List ERow → Option D × Option D × Option D × Option D × Option D → En := fun s o => [some (tree c Rs), some (homesD h), some (.lst (s.map rowD)), o.1, o.2.1, o.2.2.1, o.2.2.2.1, o.2.2.2.2]
  obtain ⟨⟨o3, o4, o5, o6, o7⟩, q1, _⟩ := evFor_ix' (α := Nat) (set := set1 3) (body := bEv e1 e2 c) env (fun s k => s ++ evr Rs h k) (fun k : Nat => D.int k) (fun i s => s.length ≤ 60 * i) (need Rs h (nms h)) 0 [] (none, none, none, none, none) (Nat.le_refl _) (fun i s k o hk hl hi => by
      have hkm : k ∈ (crs Rs.length).filter fun k => decide (usS Rs h k ≠ []) := by rw [← need_us]; exact hk
      obtain ⟨hk1, hk2⟩ := List.mem_filter.mp hkm
      obtain ⟨k1, k2⟩ := crs_mem.mp hk1
      have hne : usS Rs h k ≠ [] := of_decide_eq_true hk2
      have el := evr_len (Rs := Rs) hh k
      have il : i < 40 := by
        have : (need Rs h (nms h)).length ≤ Rs.length := filt_len _ _
        omega
      have pe := tprice_of (e := e2) (c := c) t k1 k2
      obtain ⟨pb, pn⟩ := pr_b t k1 k2
      have us := users_eq (e := e2) (c := c) t hh k1 k2
      rw [usS_eq hh k1] at us
      have ul := usS_len Rs hh k
      have up : 0 < (usS Rs h k).length := List.length_pos_iff.mpr hne
      refine ⟨by rw [List.length_append]; omega, _, rfl, ?_⟩
      obtain ⟨o1, o2, o3, o4, o5⟩ := o
      by_cases hp : pr Rs k = 0
      · refine ⟨(some (.int (k : Nat)), some (rD (pr Rs k)), o3, o4, o5), ?_⟩
        have er : evr Rs h k = [] := by
          unfold evr
          rw [if_neg]
          rintro ⟨_, z⟩
          exact (num_ne pn).mp z hp
        rw [er, List.append_nil]
        unfold bEv
        rw [seq_nx (en' := env s (some (.int (k : Nat)), some (rD (pr Rs k)), o3, o4, o5)) (sAs_of (eMeth1_of (l := [.lst (Rs.map rd)]) rfl rfl pe))]
        rw [sIf_ap, tV_of (eB2_of rfl rfl (oNe_r0 _)), bnd_ok, if_neg (by simpa using hp)]
        rfl
      · refine ⟨(some (.int (k : Nat)), some (rD (pr Rs k)), some (.lst (ts (usS Rs h k))), some (rD (evq Rs h k)), o5), ?_⟩
        have er : evr Rs h k = (usS Rs h k).map fun x => (k, x, evq Rs h k) := by
          unfold evr
          rw [if_pos ⟨hne, (num_ne pn).mpr hp⟩]
        have qt := quot_len (e := e1) pb up (by omega)
        unfold bEv
        rw [seq_nx (en' := env s (some (.int (k : Nat)), some (rD (pr Rs k)), o3, o4, o5)) (sAs_of (eMeth1_of (l := [.lst (Rs.map rd)]) rfl rfl pe))]
        rw [sIf_ap, tV_of (eB2_of rfl rfl (oNe_r0 _)), bnd_ok, if_pos (by simpa using hp)]
        rw [seq_nx (en' := env s (some (.int (k : Nat)), some (rD (pr Rs k)), some (.lst (ts (usS Rs h k))), o4, o5)) (sAs_of (eCall3_of rfl rfl rfl us))]
        rw [seq_nx (en' := env s (some (.int (k : Nat)), some (rD (pr Rs k)), some (.lst (ts (usS Rs h k))), some (rD (evq Rs h k)), o5)) (sAs_of (eCall2_of rfl (by
          rw [eTup_ap, aCons_ap, eBi1_of (x := .lst (ts (usS Rs h k))) rfl (oLen_lst _), bnd_ok, aCons_ap, eC_ap, bnd_ok, aNil_ap, bnd_ok, bnd_ok, bnd_ok, ts_len]) qt))]
        have lc : evLc (set1 7) (fun _ => .ok true) (eFl (eTup (aCons (eVar 3) (aCons (eVar 7) (aCons (eFl (eVar 6)) aNil))))) (wipE [7] (env s (some (.int (k : Nat)), some (rD (pr Rs k)), some (.lst (ts (usS Rs h k))), some (rD (evq Rs h k)), o5))) (ts (usS Rs h k)) = .ok ((usS Rs h k).map fun x => rowD (k, x, evq Rs h k)) :=
          evLc_map (q := D.str) (r := fun x => rowD (k, x, evq Rs h k)) (usS Rs h k) fun x hx => ⟨_, rfl, by
            refine eFl_of ?_ (by simp [rowD, rD])
            rw [eTup_ap, aCons_ap]
            show bnd (bnd (Except.ok (D.int (k : Nat))) _) _ = _
            rw [bnd_ok, aCons_ap]
            show bnd (bnd (bnd (Except.ok (D.str x)) _) _) _ = _
            rw [bnd_ok, aCons_ap, eFl_of (d := rD (evq Rs h k)) rfl (flat_rD _)]
            rfl⟩
        rw [sExt_of (l := s.map rowD) rfl (eLc_ap (iL_of rfl) lc (by rw [List.length_map]; omega)) (by rw [List.length_map, List.length_map]; omega), er]
        have em : s.map rowD ++ (usS Rs h k).map (fun x => rowD (k, x, evq Rs h k)) = (s ++ (usS Rs h k).map fun x => (k, x, evq Rs h k)).map rowD := by
          rw [List.map_append, List.map_map]
          rfl
        rw [em]
        rfl)
  have fin : (need Rs h (nms h)).foldl (fun s k => s ++ evr Rs h k) [] = evt Rs h := by
    rw [foldl_flat, List.nil_append, need_us]
    exact flat_filter _ _ (fun k hk => by
      unfold evr
      rw [if_neg]
      rintro ⟨z, _⟩
      rw [decide_eq_false_iff_not] at hk
      exact hk z) _
  rw [fin] at q1
  unfold f_even
  rw [runF_ap]
  show endR (s_even e1 e2 c [some (tree c Rs), some (homesD h), none, none, none, none, none, none]) = _
  unfold s_even
  refine step_nx (en' := env [] (none, none, none, none, none)) rfl ?_
  refine step_nx (sFor_of (iL_of (eCall3_of rfl rfl (eBi1_of rfl (oSrtD_hm hh)) nd)) q1) ?_
  rfl
end Co
end
noncomputable section
namespace Co
open PySem PySem.Spec PyProof.Rows L2 Pi
/-! ### fractions over one bottom -/
def Dv (M : Int) (r : Rat) : Prop := ∃ z : Int, r = Rat.divInt z M
theorem Dv.add {M : Int} {a b : Rat} (hM : M ≠ 0) (ha : Dv M a) (hb : Dv M b) : Dv M (a + b) := by
  obtain ⟨x, rfl⟩ := ha
  obtain ⟨y, rfl⟩ := hb
  refine ⟨x + y, ?_⟩
  rw [Rat.divInt_add_divInt _ _ hM hM, ← Int.add_mul, Rat.divInt_mul_right hM]
theorem Dv.zero {M : Int} : Dv M 0 := ⟨0, by rw [Rat.zero_divInt]⟩
theorem Dv.den {M : Int} {n : Nat} {r : Rat} (h : Dv M r) (hM : M ≠ 0) (bM : B n M) : B n (r.den : Int) := by
  obtain ⟨z, rfl⟩ := h
  rw [(num_of hM).2]
  exact bM.le (de_le hM)
theorem Dv.of {d e z : Int} (hd : e ≠ 0) : Dv (d * e) (Rat.divInt z d) := ⟨z * e, by rw [Rat.divInt_mul_right hd]⟩
theorem divInt_b {t b : Int} {m n : Nat} (hb : b ≠ 0) (h1 : B m t) (h2 : B n b) : Rb m n (Rat.divInt t b) := by
  obtain ⟨e1, e2⟩ := num_of (t := t) hb
  exact ⟨by rw [e1]; exact h1.le (nu_le hb), by rw [e2]; exact h2.le (de_le hb)⟩
theorem low8 {t b : Int} (hb : 0 < b) (h : B 8900 b) : f_low [.int t, .int b] = .ok (fr t b) := by
  have h1 := prt_ok8 (t := t) (by omega) h t
  have h2 := prt_ok8 (t := t) (by omega) h b
  unfold fr nu de
  unfold prt at h1 h2 ⊢
  rw [if_neg (by omega)] at h1 h2 ⊢
  simp [f_low, s_low, ldiv_eq, oDiv_int h1, oDiv_int h2]
theorem add_low {T : Rat} {t b : Int} (hb : 0 < b) : T + Rat.divInt t b = Rat.divInt (T.num * b + t * (T.den : Int)) ((T.den : Int) * b) := by
  have e : T = Rat.divInt T.num T.den := (Rat.num_divInt_den T).symm
  rw [e, Rat.divInt_add_divInt _ _ (Int.ne_of_gt (den_pos T)) (Int.ne_of_gt hb), ← e]
def s_lsum : EvS := (sSeq (sAs 1 (eTup (aCons (eC (.int 0)) (aCons (eC (.int 1)) aNil))))
  (sSeq (sFor (iL (eVar 0)) (set1 2)
    (sAs 1 (eCall f_low (aCons (eB2 oAdd (eFl (eB2 oMul (eB2 oIx (eVar 1) (eC (.int 0))) (eB2 oIx (eVar 2) (eC (.int 1))))) (eFl (eB2 oMul (eB2 oIx (eVar 2) (eC (.int 0))) (eB2 oIx (eVar 1) (eC (.int 1)))))) (aCons (eFl (eB2 oMul (eB2 oIx (eVar 1) (eC (.int 1))) (eB2 oIx (eVar 2) (eC (.int 1))))) aNil)))))
  (sRet (eVar 1))))
def f_lsum : List D → Rs D := runF 2 s_lsum
def pD (p : Int × Int) : D := .tup [.int p.1, .int p.2]
def pv (p : Int × Int) : Rat := Rat.divInt p.1 p.2
theorem rsum_foldl (l : List Rat) : rsum l = l.foldl (· + ·) 0 := rfl
theorem lsum_eq {M : Int} (hM : M ≠ 0) (bM : B 4400 M) {a : Nat} (ha : a ≤ 500000) {l : List (Int × Int)} (hl : l.length ≤ 60) (h : ∀ p, p ∈ l → 0 < p.2 ∧ B 4400 p.2 ∧ B a p.1 ∧ Dv M (pv p)) :
    f_lsum [.lst (l.map pD)] = .ok (rD (rsum (l.map pv))) ∧ Dv M (rsum (l.map pv)) ∧ B ((a + 5000) * 61) (rsum (l.map pv)).num := by
  let L : D := .lst (l.map pD)
  obtain ⟨o2, q1, q2, q3⟩ := evFor_ix' (α := Int × Int) (set := set1 2) (body := (sAs 1 (eCall f_low (aCons (eB2 oAdd (eFl (eB2 oMul (eB2 oIx (eVar 1) (eC (.int 0))) (eB2 oIx (eVar 2) (eC (.int 1))))) (eFl (eB2 oMul (eB2 oIx (eVar 2) (eC (.int 0))) (eB2 oIx (eVar 1) (eC (.int 1)))))) (aCons (eFl (eB2 oMul (eB2 oIx (eVar 1) (eC (.int 1))) (eB2 oIx (eVar 2) (eC (.int 1))))) aNil)))))
    (fun (s : Rat) (o : Option D) => [some L, some (rD s), o]) (fun s p => s + pv p) pD (fun i s => Dv M s ∧ B ((a + 5000) * (i + 1)) s.num) l 0 0 none ⟨Dv.zero, by unfold B; exact Nat.two_pow_pos _⟩ (fun i s p o hp hi ⟨hd, hn⟩ => by
      obtain ⟨p0, pb, pa, pd⟩ := h p hp
      have sd := hd.den hM bM
      have bz := Int.mul_pos (den_pos s) p0
      have k1 := hn.ok pb (by
        have : (a + 5000) * (i + 1) ≤ 505000 * 61 := Nat.mul_le_mul (by omega) (by omega)
        omega) (by decide)
      have k2 := pa.ok sd (by omega) (by decide)
      have k3 := sd.ok pb (by decide) (by decide)
      have lw := low8 (t := s.num * p.2 + p.1 * (s.den : Int)) bz ((sd.mul pb).mono (by decide : 4400 + 4400 ≤ 8900))
      rw [fr_rD (Int.ne_of_gt bz), ← add_low p0] at lw
      refine ⟨⟨hd.add hM pd, ?_⟩, _, rfl, some (pD p), ?_⟩
      · show B _ (s + Rat.divInt p.1 p.2).num
        rw [add_low p0, (num_of (Int.ne_of_gt bz)).1]
        refine B.le (B.mono (B.add ((hn.mul pb).mono (n := (a + 5000) * (i + 1) + 4400) (Nat.le_refl _)) ((pa.mul sd).mono (n := (a + 5000) * (i + 1) + 4400) ?_)) ?_) (nu_le (Int.ne_of_gt bz))
        · have : (a + 5000) * 1 ≤ (a + 5000) * (i + 1) := Nat.mul_le_mul_left _ (by omega)
          omega
        · rw [show (a + 5000) * (i + 1 + 1) = (a + 5000) * (i + 1) + (a + 5000) from Nat.mul_succ _ _]
          omega
      · exact sAs_of (eCall2_of (eB2_of (eFl_of (eB2_of (eB2_of rfl rfl rfl) (eB2_of rfl rfl rfl) (oMul_int k1)) (flat_int _)) (eFl_of (eB2_of (eB2_of rfl rfl rfl) (eB2_of rfl rfl rfl) (oMul_int k2)) (flat_int _)) (oAdd_int _ _)) (eFl_of (eB2_of (eB2_of rfl rfl rfl) (eB2_of rfl rfl rfl) (oMul_int k3)) (flat_int _)) lw))
  have fin : l.foldl (fun s p => s + pv p) 0 = rsum (l.map pv) := by
    rw [rsum_foldl, List.foldl_map]
  rw [fin] at q1 q2 q3
  refine ⟨?_, q2, q3.mono (Nat.mul_le_mul_left _ (by omega))⟩
  unfold f_lsum
  rw [runF_ap]
  show endR (s_lsum [some L, none, none]) = _
  unfold s_lsum
  refine step_nx (en' := [some L, some (rD 0), none]) rfl ?_
  refine step_nx (sFor_of (iL_of rfl) q1) ?_
  rfl
theorem pv_rD (r : Rat) : pD (r.num, (r.den : Int)) = rD r ∧ pv (r.num, (r.den : Int)) = r := ⟨rfl, Rat.num_divInt_den r⟩
/-- the program's sum, over one bottom -/
theorem sumE_dv {e : Nat} {M : Int} (hM : M ≠ 0) (bM : B 4400 M) {a b : Rat} {m m' : Nat} (ha : Dv M a) (hb : Dv M b) (na : B m a.num) (nb : B m' b.num) (h1 : m < 30000000) (h2 : m' < 30000000) : f_sumE e [rD a, rD b] = .ok (rD (a + b)) ∧ Dv M (a + b) ∧ B (max m m' + 4401) (a + b).num := by
  have nz : (a.den : Int) * (b.den : Int) ≠ 0 := by have := den_mul_pos a b; omega
  have da := ha.den hM bM
  have db := hb.den hM bM
  have k1 := na.ok db (by omega) (by omega)
  have k2 := nb.ok da (by omega) (by omega)
  have k3 := da.ok db (by omega) (by omega)
  have r := ratio8 (e := e) (t := a.num * (b.den : Int) + b.num * (a.den : Int)) nz ((da.mul db).mono (by decide : 4400 + 4400 ≤ 8900))
  rw [fr_rD nz, ← add_div] at r
  refine ⟨?_, ha.add hM hb, ?_⟩
  · unfold rD at r ⊢
    simp [f_sumE, s_sumE, oMul_int k1, oMul_int k2, oMul_int k3, r]
  · rw [add_div, (num_of nz).1]
    exact B.le (B.add ((na.mul db).mono (by omega)) ((nb.mul da).mono (by omega))) (nu_le nz)
/-! ### the one bottom of all shares -/
/-- the bottom of what one pays for road k -/
def dk (Rs : List Rd3) (h : Hms) (k : Nat) : Int := ((pr Rs k).den : Int) * (if (usS Rs h k).length = 0 then 1 else ((usS Rs h k).length : Nat) : Int)
def mAll (Rs : List Rd3) (h : Hms) (l : List Nat) : Int := l.foldr (fun k m => dk Rs h k * m) 1
theorem dk_pos {Rs : List Rd3} {h : Hms} {k : Nat} : 0 < dk Rs h k := by
  unfold dk
  refine Int.mul_pos (den_pos _) ?_
  split <;> omega
theorem dk_b {Rs : List Rd3} (t : Tre Rs) {h : Hms} (hh : Hm Rs.length h) {k : Nat} (hk : k ∈ crs Rs.length) : B 220 (dk Rs h k) := by
  obtain ⟨k1, k2⟩ := crs_mem.mp hk
  have pb := (pr_b t k1 k2).1.den
  have ul := usS_len Rs hh k
  unfold dk
  refine (pb.mul (n := 10) ?_).mono (by decide)
  unfold B
  split <;> omega
theorem mAll_pos {Rs : List Rd3} {h : Hms} : ∀ l : List Nat, 0 < mAll Rs h l
  | [] => show (0 : Int) < 1 by decide
  | k :: l => Int.mul_pos dk_pos (mAll_pos l)
theorem mAll_b {Rs : List Rd3} (t : Tre Rs) {h : Hms} (hh : Hm Rs.length h) : ∀ l : List Nat, (∀ k, k ∈ l → k ∈ crs Rs.length) → B (220 * l.length + 1) (mAll Rs h l)
  | [], _ => show (1 : Int).natAbs < 2 ^ (220 * 0 + 1) by decide
  | k :: l, hl => by
    have ih := mAll_b t hh l fun x hx => hl x (List.mem_cons_of_mem _ hx)
    exact ((dk_b t hh (hl k List.mem_cons_self)).mul ih).mono (by rw [List.length_cons]; omega)
theorem mAll_dvd {Rs : List Rd3} {h : Hms} {k : Nat} : ∀ {l : List Nat}, k ∈ l → ∃ e, e ≠ 0 ∧ mAll Rs h l = dk Rs h k * e
  | x :: l, hk => by
    rcases List.mem_cons.mp hk with e | hk
    · subst e
      exact ⟨mAll Rs h l, Int.ne_of_gt (mAll_pos l), rfl⟩
    · obtain ⟨e, h1, h2⟩ := mAll_dvd (h := h) hk
      refine ⟨dk Rs h x * e, Int.mul_ne_zero (Int.ne_of_gt dk_pos) h1, ?_⟩
      show dk Rs h x * mAll Rs h l = _
      rw [h2, Int.mul_left_comm]
abbrev mTree (Rs : List Rd3) (h : Hms) : Int := mAll Rs h (crs Rs.length)
theorem mTree_ne {Rs : List Rd3} {h : Hms} : mTree Rs h ≠ 0 := Int.ne_of_gt (mAll_pos _)
theorem mTree_b {Rs : List Rd3} (t : Tre Rs) {h : Hms} (hh : Hm Rs.length h) (hl : Rs.length < 20) : B 4400 (mTree Rs h) := (mAll_b t hh _ fun _ h => h).mono (by rw [crs_len]; omega)
theorem evq_dv {Rs : List Rd3} {h : Hms} {k : Nat} (hk : k ∈ crs Rs.length) : Dv (mTree Rs h) (evq Rs h k) := by
  obtain ⟨e, h1, h2⟩ := mAll_dvd (Rs := Rs) (h := h) hk
  unfold mTree
  rw [h2]
  by_cases z : (usS Rs h k).length = 0
  · have : evq Rs h k = 0 := by
      unfold evq
      rw [z]
      show Rat.divInt _ (_ * 0) = 0
      rw [Int.mul_zero, Rat.divInt_zero]
    rw [this]
    exact Dv.zero
  · unfold dk evq
    rw [if_neg z]
    exact Dv.of h1
theorem pr_dv {Rs : List Rd3} {h : Hms} {k : Nat} (hk : k ∈ crs Rs.length) : Dv (mTree Rs h) (pr Rs k) := by
  obtain ⟨e, h1, h2⟩ := mAll_dvd (Rs := Rs) (h := h) hk
  unfold mTree
  rw [h2]
  unfold dk
  have : pr Rs k = Rat.divInt (pr Rs k).num (pr Rs k).den := (Rat.num_divInt_den _).symm
  rw [Int.mul_assoc]
  have hz : (if (usS Rs h k).length = 0 then 1 else ((usS Rs h k).length : Nat) : Int) * e ≠ 0 := by
    refine Int.mul_ne_zero ?_ h1
    split <;> omega
  rw (occs := [2]) [this]
  exact Dv.of hz
end Co
end
noncomputable section
namespace Co
open PySem PySem.Spec PyProof.Rows L2 Pi
/-! ### ways have each crossing once -/
theorem Way.det {Rs : List Rd3} {k : Nat} {l : List Nat} (h : Way Rs k l) : ∀ {l'}, Way Rs k l' → l = l' := by
  induction h with
  | z =>
    intro l' h'
    cases h' with
    | z => rfl
    | s h1 _ _ => omega
  | @s k l r h1 h2 _ ih =>
    intro l' h'
    cases h' with
    | z => omega
    | s g1 g2 g3 =>
      rw [h2] at g2
      cases g2
      rw [ih g3]
theorem Way.suf {Rs : List Rd3} {k : Nat} {l : List Nat} (h : Way Rs k l) : ∀ {x}, x ∈ l → ∃ l1 l2, l = l1 ++ x :: l2 ∧ Way Rs x (x :: l2) := by
  induction h with
  | z => intro x hx; cases hx
  | @s k l r h1 h2 h3 ih =>
    intro x hx
    rcases List.mem_cons.mp hx with e | hx
    · subst e; exact ⟨[], l, rfl, .s h1 h2 h3⟩
    · obtain ⟨l1, l2, e, w⟩ := ih hx
      exact ⟨k :: l1, l2, by rw [e]; rfl, w⟩
theorem Way.nodup {Rs : List Rd3} {k : Nat} {l : List Nat} (h : Way Rs k l) : l.Nodup := by
  induction h with
  | z => exact List.nodup_nil
  | @s k l r h1 h2 h3 ih =>
    refine List.nodup_cons.mpr ⟨fun hk => ?_, ih⟩
    obtain ⟨l1, l2, e, w⟩ := h3.suf hk
    have := (Way.s h1 h2 h3).det w
    have e2 : l = l2 := (List.cons.inj this).2
    have := congrArg List.length e
    rw [e2] at this
    simp at this
    omega
/-! ### sums over villages, sums over roads -/
theorem rsum_append (a b : List Rat) : rsum (a ++ b) = rsum a + rsum b := by
  induction a with
  | nil => show rsum b = 0 + rsum b; rw [Rat.zero_add]
  | cons x a ih => rw [List.cons_append, rsum_cons, rsum_cons, ih, Rat.add_assoc]
theorem rsum_flat {α β : Type} (w : α → List β) (f : β → Rat) : ∀ l : List α, rsum ((l.flatMap w).map f) = rsum (l.map fun x => rsum ((w x).map f))
  | [] => rfl
  | x :: l => by rw [List.flatMap_cons, List.map_append, rsum_append, rsum_flat w f l, List.map_cons, rsum_cons]
theorem rsum_0 {α : Type} {f : α → Rat} : ∀ l : List α, (∀ k, k ∈ l → f k = 0) → rsum (l.map f) = 0
  | [], _ => rfl
  | k :: l, h => by rw [List.map_cons, rsum_cons, h k List.mem_cons_self, rsum_0 l fun x hx => h x (List.mem_cons_of_mem _ hx), Rat.zero_add]
theorem rsum_add {α : Type} (f g : α → Rat) : ∀ l : List α, rsum (l.map fun k => f k + g k) = rsum (l.map f) + rsum (l.map g)
  | [] => by show (0 : Rat) = 0 + 0; rw [Rat.zero_add]
  | k :: l => by
    rw [List.map_cons, List.map_cons, List.map_cons, rsum_cons, rsum_cons, rsum_cons, rsum_add f g l]
    grind
theorem rsum_one {f : Nat → Rat} {a : Nat} : ∀ l : List Nat, l.Nodup → a ∈ l → rsum (l.map fun k => if a = k then f k else 0) = f a
  | k :: l, nd, h => by
    obtain ⟨n1, n2⟩ := List.nodup_cons.mp nd
    rw [List.map_cons, rsum_cons]
    by_cases e : a = k
    · subst e
      rw [if_pos rfl, rsum_0 l fun x hx => if_neg fun z => n1 (by rw [z]; exact hx), Rat.add_zero]
    · rw [if_neg e, rsum_one l n2 ((List.mem_cons.mp h).resolve_left e), Rat.zero_add]
theorem rsum_congr {α : Type} {f g : α → Rat} {l : List α} (h : ∀ k, k ∈ l → f k = g k) : rsum (l.map f) = rsum (l.map g) := by
  rw [List.map_congr_left h]
theorem rsum_filt {f : Nat → Rat} {p : Nat → Bool} : ∀ l : List Nat, rsum ((l.filter p).map f) = rsum (l.map fun k => if p k = true then f k else 0)
  | [] => rfl
  | k :: l => by rw [filt_sum, rsum_filt l, List.map_cons, rsum_cons]
/-- x, n times -/
def rep (n : Nat) (x : Rat) : Rat := rsum (List.replicate n x)
theorem rep_0 (x : Rat) : rep 0 x = 0 := rfl
theorem rep_s (n : Nat) (x : Rat) : rep (n + 1) x = x + rep n x := by unfold rep; rw [List.replicate_succ, rsum_cons]
theorem rep_div (n : Nat) {a b : Int} (hb : b ≠ 0) : rep n (Rat.divInt a b) = Rat.divInt (a * (n : Nat)) b := by
  induction n with
  | zero => rw [rep_0]; show 0 = Rat.divInt (a * 0) b; rw [Int.mul_zero, Rat.zero_divInt]
  | succ n ih =>
    rw [rep_s, ih, Rat.divInt_add_divInt _ _ hb hb, ← Int.add_mul, Rat.divInt_mul_right hb]
    congr 1
    rw [Int.natCast_add, Int.mul_add, Int.add_comm]
    simp
theorem count_sum {f : Nat → Rat} {n : Nat} : ∀ L : List Nat, (∀ k, k ∈ L → k ∈ crs n) → rsum (L.map f) = rsum ((crs n).map fun k => rep (L.count k) (f k))
  | [], _ => (rsum_0 _ fun k _ => rep_0 _).symm
  | a :: L, h => by
    rw [List.map_cons, rsum_cons, count_sum L fun k hk => h k (List.mem_cons_of_mem _ hk), ← rsum_one (f := f) (crs n) (crs_nd n) (h a List.mem_cons_self), ← rsum_add]
    refine rsum_congr fun k _ => ?_
    rw [List.count_cons]
    by_cases e : a = k
    · rw [if_pos e, if_pos (by simp [e]), rep_s]
    · rw [if_neg e, if_neg (by simpa using e), Nat.add_zero, Rat.zero_add]
/-! ### who goes where -/
abbrev wyx (Rs : List Rd3) (h : Hms) (x : Str) : List Nat := wy Rs (home h x)
/-- all ways, one behind another -/
def allW (Rs : List Rd3) (h : Hms) (l : List Str) : List Nat := l.flatMap (wyx Rs h)
theorem usS_mem {Rs : List Rd3} {h : Hms} {k : Nat} {x : Str} : x ∈ usS Rs h k ↔ x ∈ h.map (·.1) ∧ k ∈ wyx Rs h x := by
  unfold usS
  rw [List.mem_filter, nms_mem, decide_eq_true_eq]
theorem usS_nd {Rs : List Rd3} {n : Nat} {h : Hms} (hh : Hm n h) (k : Nat) : (usS Rs h k).Nodup := (nms_nd hh.nd).filter _
theorem wyx_nd {Rs : List Rd3} (t : Tre Rs) {h : Hms} (hh : Hm Rs.length h) {x : Str} (hx : x ∈ h.map (·.1)) : (wyx Rs h x).Nodup := (t.wy (home_le hh hx)).1.nodup
theorem wyx_rng {Rs : List Rd3} (t : Tre Rs) {h : Hms} (hh : Hm Rs.length h) {x : Str} (hx : x ∈ h.map (·.1)) : ∀ k, k ∈ wyx Rs h x → k ∈ crs Rs.length := fun k hk => crs_mem.mpr ((t.wy (home_le hh hx)).1.rng k hk)
theorem cnt_len {Rs : List Rd3} (t : Tre Rs) {h : Hms} (hh : Hm Rs.length h) (k : Nat) : ∀ l : List Str, (∀ x, x ∈ l → x ∈ h.map (·.1)) → (allW Rs h l).count k = (l.filter fun x => decide (k ∈ wyx Rs h x)).length
  | [], _ => rfl
  | x :: l, hl => by
    have ih := cnt_len t hh k l fun y hy => hl y (List.mem_cons_of_mem _ hy)
    unfold allW at ih ⊢
    rw [List.flatMap_cons, List.count_append, ih, (wyx_nd t hh (hl x List.mem_cons_self)).count]
    by_cases e : k ∈ wyx Rs h x
    · rw [if_pos e, List.filter_cons_of_pos (by simpa using e), List.length_cons, Nat.add_comm]
    · rw [if_neg e, List.filter_cons_of_neg (by simpa using e), Nat.zero_add]
theorem cnt_us {Rs : List Rd3} (t : Tre Rs) {h : Hms} (hh : Hm Rs.length h) (k : Nat) : (allW Rs h (h.map (·.1))).count k = (usS Rs h k).length := by
  rw [cnt_len t hh k _ fun x hx => hx]
  unfold usS
  exact (((srtS_perm (h.map (·.1))).filter _).length_eq).symm
theorem allW_rng {Rs : List Rd3} (t : Tre Rs) {h : Hms} (hh : Hm Rs.length h) {l : List Str} (hl : ∀ x, x ∈ l → x ∈ h.map (·.1)) : ∀ k, k ∈ allW Rs h l → k ∈ crs Rs.length := fun k hk => by
  obtain ⟨x, hx, hk⟩ := List.mem_flatMap.mp hk
  exact wyx_rng t hh (hl x hx) k hk
/-! ### the even share -/
def shr (Rs : List Rd3) (h : Hms) (x : Str) : Rat := rsum ((wyx Rs h x).map (evq Rs h))
theorem filt_one {x : Str} : ∀ {l : List Str}, l.Nodup → (l.filter fun y => decide (y = x)) = if x ∈ l then [x] else []
  | [], _ => rfl
  | y :: l, nd => by
    obtain ⟨n1, n2⟩ := List.nodup_cons.mp nd
    by_cases e : y = x
    · subst e
      rw [List.filter_cons_of_pos (by simp), filt_one n2, if_neg n1, if_pos List.mem_cons_self]
    · have e' : ¬ x = y := fun z => e z.symm
      rw [List.filter_cons_of_neg (by simpa using e), filt_one n2]
      simp [e']
theorem evr_x {Rs : List Rd3} {n : Nat} {h : Hms} (hh : Hm n h) (x : Str) (k : Nat) : ((evr Rs h k).filter fun r => decide (r.2.1 = x)).map (·.2.2) = if x ∈ usS Rs h k ∧ 0 < (pr Rs k).num then [evq Rs h k] else [] := by
  unfold evr
  by_cases c : usS Rs h k ≠ [] ∧ 0 < (pr Rs k).num
  · rw [if_pos c, List.filter_map, List.map_map]
    have e : ((usS Rs h k).filter ((fun r : ERow => decide (r.2.1 = x)) ∘ fun x => (k, x, evq Rs h k))) = (usS Rs h k).filter fun y => decide (y = x) := rfl
    rw [e, filt_one (usS_nd hh k)]
    by_cases m : x ∈ usS Rs h k
    · rw [if_pos m, if_pos ⟨m, c.2⟩]; rfl
    · rw [if_neg m, if_neg fun z => m z.1]; rfl
  · rw [if_neg c, if_neg]
    · rfl
    · rintro ⟨m, z⟩
      exact c ⟨(fun e => by rw [e] at m; cases m), z⟩
theorem evt_x {Rs : List Rd3} {n : Nat} {h : Hms} (hh : Hm n h) (x : Str) : ∀ l : List Nat, ((l.flatMap (evr Rs h)).filter fun r => decide (r.2.1 = x)).map (·.2.2) = (l.filter fun k => decide (x ∈ usS Rs h k ∧ 0 < (pr Rs k).num)).map (evq Rs h)
  | [] => rfl
  | k :: l => by
    rw [List.flatMap_cons, List.filter_append, List.map_append, evr_x hh, evt_x hh x l]
    by_cases c : x ∈ usS Rs h k ∧ 0 < (pr Rs k).num
    · rw [if_pos c, List.filter_cons_of_pos (by simpa using c)]; rfl
    · rw [if_neg c, List.filter_cons_of_neg (by simpa using c)]; rfl
theorem evq_0 {Rs : List Rd3} (t : Tre Rs) {h : Hms} {k : Nat} (hk : k ∈ crs Rs.length) (z : ¬ 0 < (pr Rs k).num) : evq Rs h k = 0 := by
  obtain ⟨k1, k2⟩ := crs_mem.mp hk
  have pn := (pr_b t k1 k2).2
  have : (pr Rs k).num = 0 := by omega
  unfold evq
  rw [this, Rat.zero_divInt]
theorem shr_rows {Rs : List Rd3} (t : Tre Rs) {h : Hms} (hh : Hm Rs.length h) {x : Str} (hx : x ∈ h.map (·.1)) : rsum (((evt Rs h).filter fun r => decide (r.2.1 = x)).map (·.2.2)) = shr Rs h x := by
  unfold evt shr
  rw [evt_x hh, rsum_filt]
  have p := in_crs (n := Rs.length) (wyx_nd t hh hx) fun k hk => crs_mem.mp (wyx_rng t hh hx k hk)
  rw [← rsum_perm (p.map (evq Rs h)), rsum_filt]
  refine rsum_congr fun k hk => ?_
  by_cases m : k ∈ wyx Rs h x
  · have m' : x ∈ usS Rs h k := usS_mem.mpr ⟨hx, m⟩
    by_cases z : 0 < (pr Rs k).num
    · rw [if_pos (by simpa using ⟨m', z⟩), if_pos (by simpa using m)]
    · rw [if_neg (by simp [z]), if_pos (by simpa using m), evq_0 t hk z]
  · have m' : ¬ x ∈ usS Rs h k := fun z => m (usS_mem.mp z).2
    rw [if_neg (by simp [m']), if_neg (by simpa using m)]
theorem rep_evq {Rs : List Rd3} {h : Hms} {k : Nat} (hz : (usS Rs h k).length ≠ 0) : rep (usS Rs h k).length (evq Rs h k) = pr Rs k := by
  unfold evq
  rw [rep_div _ (Int.mul_ne_zero (Int.ne_of_gt (den_pos _)) (by omega)), Rat.divInt_mul_right (by omega), Rat.num_divInt_den]
/-- all shares together are the prices of the roads that are needed -/
theorem shr_all {Rs : List Rd3} (t : Tre Rs) {h : Hms} (hh : Hm Rs.length h) : rsum ((h.map (·.1)).map (shr Rs h)) = rsum (((allW Rs h (h.map (·.1))).foldl addN []).map (pr Rs)) := by
  have rng := allW_rng t hh (l := h.map (·.1)) fun x hx => hx
  have e : rsum ((h.map (·.1)).map (shr Rs h)) = rsum ((allW Rs h (h.map (·.1))).map (evq Rs h)) := (rsum_flat (wyx Rs h) (evq Rs h) _).symm
  rw [e, count_sum _ rng]
  have nd : ((allW Rs h (h.map (·.1))).foldl addN []).Nodup := foldN_nd List.nodup_nil
  have p := in_crs (n := Rs.length) nd fun k hk => crs_mem.mp (rng k ((foldN_mem.mp hk).resolve_left fun z => by cases z))
  rw [← rsum_perm (p.map (pr Rs)), rsum_filt]
  refine rsum_congr fun k hk => ?_
  rw [cnt_us t hh]
  by_cases z : (usS Rs h k).length = 0
  · have nm : ¬ k ∈ allW Rs h (h.map (·.1)) := fun m => by
      have := List.count_pos_iff.mpr m
      rw [cnt_us t hh] at this
      omega
    rw [z, rep_0, if_neg (by
      rw [decide_eq_true_eq]
      intro m
      exact nm ((foldN_mem.mp m).resolve_left fun z => by cases z))]
  · have m : k ∈ allW Rs h (h.map (·.1)) := List.count_pos_iff.mp (by rw [cnt_us t hh]; omega)
    rw [if_pos (by
      rw [decide_eq_true_eq]
      exact foldN_mem.mpr (.inr m)), rep_evq z]
theorem shr_dv {Rs : List Rd3} (t : Tre Rs) {h : Hms} (hh : Hm Rs.length h) {x : Str} (hx : x ∈ h.map (·.1)) : Dv (mTree Rs h) (shr Rs h x) := by
  have : ∀ l : List Nat, (∀ k, k ∈ l → k ∈ crs Rs.length) → Dv (mTree Rs h) (rsum (l.map (evq Rs h))) := fun l => by
    induction l with
    | nil => intro _; exact Dv.zero
    | cons k l ih =>
      intro hl
      rw [List.map_cons, rsum_cons]
      exact Dv.add mTree_ne (evq_dv (hl k List.mem_cons_self)) (ih fun y hy => hl y (List.mem_cons_of_mem _ hy))
  exact this _ (wyx_rng t hh hx)
end Co
end
noncomputable section
namespace Co
open PySem PySem.Spec PyProof.Rows L2 Pi
/-! ### the even shares -/
theorem dSet_upd (s : List Str) (G : Str → D) (x : Str) (v : D) : dSet (skK s) (s.map G) (.inr x) v = s.map fun y => if y = x then v else G y := by
  induction s with
  | nil => rfl
  | cons y s ih =>
    show (if (Sum.inr y : Key) = .inr x then v else G y) :: dSet (skK s) (s.map G) (.inr x) v = _
    rw [ih]
    by_cases e : y = x
    · simp [e]
    · simp [e]
theorem dPut_upd {s : List Str} {G : Str → D} {x : Str} {v : D} (hx : x ∈ s) : dPut (skK s) (s.map G) (.inr x) v = (skK s, s.map fun y => if y = x then v else G y) := by
  unfold dPut
  rw [kIn_sk, if_pos (by simpa using hx), dSet_upd]
theorem fD_congr {s : List Str} {F G : Str → D} (h : ∀ x, x ∈ s → F x = G x) : fD s F = fD s G := by
  unfold fD
  rw [List.map_congr_left h]
def addR (F : Str → Rat) (r : ERow) : Str → Rat := fun y => if y = r.2.1 then F y + r.2.2 else F y
theorem addR_fold : ∀ (rows : List ERow) (F : Str → Rat) (y : Str), (rows.foldl addR F) y = (((rows.filter fun r => decide (r.2.1 = y)).map (·.2.2)).foldl (· + ·) (F y))
  | [], _, _ => rfl
  | r :: rows, F, y => by
    rw [List.foldl_cons, addR_fold rows]
    unfold addR
    by_cases e : r.2.1 = y
    · rw [List.filter_cons_of_pos (by simpa using e), if_pos e.symm]; rfl
    · rw [List.filter_cons_of_neg (by simpa using e), if_neg fun z => e z.symm]
theorem evt_mem {Rs : List Rd3} (t : Tre Rs) {h : Hms} (hh : Hm Rs.length h) {r : ERow} (hr : r ∈ evt Rs h) : r.2.1 ∈ h.map (·.1) ∧ Dv (mTree Rs h) r.2.2 ∧ B 210 r.2.2.num := by
  obtain ⟨k, hk, hr⟩ := List.mem_flatMap.mp hr
  unfold evr at hr
  split at hr
  · rename_i c
    obtain ⟨x, hx, rfl⟩ := List.mem_map.mp hr
    obtain ⟨k1, k2⟩ := crs_mem.mp hk
    refine ⟨(usS_mem.mp hx).1, evq_dv hk, ?_⟩
    have pb := (pr_b t k1 k2).1
    have ul := usS_len Rs hh k
    have up := List.length_pos_iff.mpr c.1
    have bn : B 10 (((usS Rs h k).length : Nat) : Int) := by unfold B; omega
    exact (divInt_b (Int.mul_ne_zero (Int.ne_of_gt (den_pos _)) (by omega)) pb.num (pb.den.mul bn)).num
  · cases hr
def s_evsh (e1 e2 c : Nat) : EvS := (sSeq (sAs 2 (eC (.dct [] [])))
  (sSeq (sForK 1 (set1 3)
    (sDSub 2 (eVar 3) (eTup (aCons (eC (.int 0)) (aCons (eC (.int 1)) aNil)))))
  (sSeq (sFor (iL (eCall (f_even e1 e2 c) (aCons (eVar 0) (aCons (eVar 1) aNil)))) (setT [4, 3, 5])
    (sDSub 2 (eVar 3) (eCall (f_sumE e1) (aCons (eB2 oDG (eVar 2) (eVar 3)) (aCons (eVar 5) aNil)))))
  (sRet (eVar 2)))))
def f_evsh (e1 e2 c : Nat) : List D → Rs D := runF 4 (s_evsh e1 e2 c)
abbrev shD (Rs : List Rd3) (h : Hms) : D := fD (h.map (·.1)) fun x => rD (shr Rs h x)
theorem evsh_eq {e1 e2 c : Nat} {Rs : List Rd3} (t : Tre Rs) (hl : Rs.length < 20) {h : Hms} (hh : Hm Rs.length h) : f_evsh e1 e2 c [tree c Rs, homesD h] = .ok (shD Rs h) := by
  have few := hh.few
  have nl : (h.map (·.1)).length = h.length := List.length_map _
  obtain ⟨o3, q1, _⟩ := evFor_ix' (α := Str) (set := set1 3) (body := (sDSub 2 (eVar 3) (eTup (aCons (eC (.int 0)) (aCons (eC (.int 1)) aNil)))))
    (fun (s : List Str) (o : Option D) => [some (tree c Rs), some (homesD h), some (fD s fun _ => rD 0), o, none, none]) addS D.str (fun i s => s.length ≤ i) (h.map (·.1)) 0 [] none (Nat.le_refl _) (fun i s x o hx hi hs => by
      rw [nl] at hi
      refine ⟨Nat.le_trans (addS_len s x) (by omega), _, rfl, some (.str x), ?_⟩
      rw [sDSub_of (ks := skK s) (l := s.map fun _ => rD 0) (d := rD 0) (kd := .str x) (k := .inr x) rfl rfl rfl rfl (by rw [skK_len]; omega), dPut_sk s (fun _ => rD 0)]
      rfl)
  rw [addS_fold (s := []) (by simpa using hh.nd), List.nil_append] at q1
  obtain ⟨o, q2, _⟩ := evFor_ix' (α := ERow) (set := setT [4, 3, 5]) (body := (sDSub 2 (eVar 3) (eCall (f_sumE e1) (aCons (eB2 oDG (eVar 2) (eVar 3)) (aCons (eVar 5) aNil)))))
    (fun (F : Str → Rat) (o : Option D × Option D × Option D) => [some (tree c Rs), some (homesD h), some (fD (h.map (·.1)) fun x => rD (F x)), o.1, o.2.1, o.2.2]) addR rowD (fun i F => ∀ y, y ∈ h.map (·.1) → Dv (mTree Rs h) (F y) ∧ B (4401 * i + 300) (F y).num) (evt Rs h) 0 (fun _ => 0) (o3, none, none) (fun y _ => ⟨Dv.zero, by unfold B; exact Nat.two_pow_pos _⟩) (fun i F r o hr hi hI => by
      have el := evt_len (Rs := Rs) hh (crs Rs.length)
      rw [crs_len] at el
      have il : i < 1200 := by
        have : (evt Rs h).length ≤ 60 * Rs.length := el
        omega
      obtain ⟨hx, hd, hn⟩ := evt_mem t hh hr
      obtain ⟨fd, fn⟩ := hI _ hx
      obtain ⟨s1, s2, s3⟩ := sumE_dv (e := e1) mTree_ne (mTree_b t hh hl) fd hd fn hn (by omega) (by omega)
      have s3' : B (4401 * (i + 1) + 300) (F r.2.1 + r.2.2).num := s3.mono (by omega)
      refine ⟨fun y hy => ?_, _, rfl, (some (.str r.2.1), some (.int (r.1 : Nat)), some (rD r.2.2)), ?_⟩
      · unfold addR
        by_cases e : y = r.2.1
        · subst e; rw [if_pos rfl]; exact ⟨s2, s3'⟩
        · rw [if_neg e]; exact ⟨(hI y hy).1, (hI y hy).2.mono (by omega)⟩
      · rw [sDSub_of (ks := skK (h.map (·.1))) (l := (h.map (·.1)).map fun x => rD (F x)) (d := rD (F r.2.1 + r.2.2)) (kd := .str r.2.1) (k := .inr r.2.1) rfl (eCall2_of (eB2_of rfl rfl (oDG_fD (fun x => rD (F x)) hx)) rfl s1) rfl rfl (by rw [skK_len, nl]; omega), dPut_upd hx]
        have e : (fun y => if y = r.2.1 then rD (F r.2.1 + r.2.2) else rD (F y)) = fun y => rD (addR F r y) := by
          funext y
          unfold addR
          by_cases e : y = r.2.1
          · subst e; rw [if_pos rfl, if_pos rfl]
          · rw [if_neg e, if_neg e]
        rw [e]
        rfl)
  have fin : (fD (h.map (·.1)) fun x => rD ((evt Rs h).foldl addR (fun _ => 0) x)) = shD Rs h := fD_congr fun x hx => by
    rw [addR_fold]
    exact congrArg rD (shr_rows t hh hx)
  have ev := even_eq (e1 := e1) (e2 := e2) (c := c) t hh
  unfold f_evsh
  rw [runF_ap]
  show endR (s_evsh e1 e2 c [some (tree c Rs), some (homesD h), none, none, none, none]) = _
  unfold s_evsh
  refine step_nx (en' := [some (tree c Rs), some (homesD h), some (fD [] fun _ => rD 0), none, none, none]) rfl ?_
  refine step_nx (sForK_of (ks := hmK h) (l := hmV h) rfl (by rw [hmK_kD]; exact q1)) ?_
  refine step_nx (sFor_of (iL_of (eCall2_of rfl rfl ev)) q2) ?_
  show endR (sRet (eVar 2) [some (tree c Rs), some (homesD h), some (fD (h.map (·.1)) fun x => rD ((evt Rs h).foldl addR (fun _ => 0) x)), o.1, o.2.1, o.2.2]) = _
  rw [fin]
  rfl
theorem eLcKF_of {vs : List Nat} {i : Nat} {set : En → D → Option En} {t : En → Rs Bool} {e : EvE} {en : En} {ks : List Key} {l0 l : List D} (h1 : Pi.getD i en = .ok (ks, l0)) (h2 : evLc set t e (wipE vs en) (ks.map kD) = .ok l) (h3 : l.length < 1000000) (h4 : flat.flatL l = true) : eLcKF vs i set t e en = .ok (.lst l) := by
  have h5 : l.length ≤ sizeLine := by rw [sizeLine_eq]; omega
  show bnd (Pi.getD i en) _ = _
  rw [h1, bnd_ok]
  show bnd (noR (evLc set t e (wipE vs en) (ks.map kD))) _ = _
  rw [h2]
  show (if l.length ≤ sizeLine ∧ flat.flatL l = true then _ else _) = _
  rw [if_pos ⟨h5, h4⟩]
theorem flat_rDs {α : Type} (q : α → Rat) : ∀ l : List α, flat.flatL (l.map fun a => rD (q a)) = true
  | [] => rfl
  | a :: l => by
    show (flat (rD (q a)) && flat.flatL (l.map fun a => rD (q a))) = true
    rw [flat_rD, flat_rDs q l]
    rfl
end Co
end
noncomputable section
namespace Co
open PySem PySem.Spec PyProof.Rows L2 Pi
/-! ### whole numbers as texts -/
abbrev St (l : List Nat) : Str := SX.S l
abbrev nL (n : Nat) : List Nat := TL.numL n
def iL' (i : Int) : List Nat := if i < 0 then 45 :: nL i.natAbs else nL i.natAbs
theorem str_int (i : Int) : Str.ofString (toString i) = St (iL' i) := by
  unfold iL'
  by_cases h : i < 0
  · rw [if_pos h]
    obtain ⟨n, rfl⟩ : ∃ n : Nat, i = Int.negSucc n := by
      cases i with
      | ofNat n => exact absurd h (by simp)
      | negSucc n => exact ⟨n, rfl⟩
    have e : toString (Int.negSucc n) = "-" ++ toString (((n + 1 : Nat) : Int)) := rfl
    rw [e]
    refine TL.ext_tl ?_
    rw [TL.tl_ofString, String.toList_append, List.map_append, ← TL.tl_ofString, ← TL.tl_ofString, TL.tl_num]
    rfl
  · rw [if_neg h]
    have e : i = ((i.natAbs : Nat) : Int) := by omega
    rw [e]
    exact SX.num_S i.natAbs
/-- a number of at most thirty figures -/
def s30 (n : Nat) : Prop := n < 1000000000000000000000000000000
theorem nL_len {n : Nat} (h : s30 n) : (nL n).length ≤ 30 := TL.numL_len (by decide) (Nat.lt_of_lt_of_le h (by decide))
theorem nL_head {n : Nat} (h : n ≠ 0) : ∃ c l, nL n = c :: l ∧ 48 < c ∧ c ≤ 57 := by
  induction n using Nat.strongRecOn with
  | _ n ih =>
    by_cases h10 : n < 10
    · exact ⟨48 + n, [], TL.numL_lt h10, by omega, by omega⟩
    · obtain ⟨c, l, e, h1, h2⟩ := ih (n / 10) (by omega) (by omega)
      exact ⟨c, l ++ [48 + n % 10], by rw [show nL n = TL.numL n from rfl, TL.numL_step (by omega), show TL.numL (n / 10) = nL (n / 10) from rfl, e]; rfl, h1, h2⟩
theorem nL_0 : nL 0 = [48] := TL.numL_lt (by decide)
theorem iL_len {i : Int} (h : s30 i.natAbs) : (iL' i).length ≤ 31 := by
  have := nL_len h
  unfold iL'
  split
  · rw [List.length_cons]; omega
  · omega
theorem oStr_int {i : Int} (h : s30 i.natAbs) : oStr [.int i] = some (.str (St (iL' i))) := by
  show (if i.natAbs.log2 < 1920 then some (D.str (PySem.Str.ofString (toString i))) else none) = _
  rw [if_pos ?_, str_int]
  by_cases z : i.natAbs = 0
  · rw [z]; decide
  · refine (Nat.log2_lt z).mpr (Nat.lt_of_lt_of_le h ?_)
    exact Nat.le_trans (by decide : _ ≤ 2 ^ 100) (Nat.pow_le_pow_right (by decide) (by decide))
theorem St_len (l : List Nat) : (St l).length = l.length := SX.S_len l
theorem oAdd_St {a b : List Nat} (h : a.length + b.length < 1000000) : oAdd (.str (St a)) (.str (St b)) = some (.str (St (a ++ b))) := by
  show (if (St a).length + (St b).length ≤ sizeLine then some (D.str (St a ++ St b)) else none) = _
  rw [if_pos (by rw [St_len, St_len, sizeLine_eq]; omega), SX.S_cat]
theorem sl_slash : Str.ofString "/" = St [47] := by decide +kernel
theorem sl_minus : Str.ofString "-" = St [45] := by decide +kernel
theorem sl_m0 : Str.ofString "-0" = St [45, 48] := by decide +kernel
theorem sl_blank : Str.ofString " " = St [32] := by decide +kernel
theorem sl_end : Str.ofString "\n" = St [10] := by decide +kernel
theorem sl_0 : Str.ofString "0" = St [48] := by decide +kernel
theorem sl_no : Str.ofString "" = St [] := by decide +kernel
theorem sl_figs : Str.ofString "0123456789" = St [48, 49, 50, 51, 52, 53, 54, 55, 56, 57] := by decide +kernel
theorem oEq_St (a b : List Nat) : oEq (.str (St a)) (.str (St b)) = some (.bl (decide (a = b))) := by
  show (if _ then some (D.bl (PyData.eqv (.str (St a)) (.str (St b)))) else none) = _
  rw [if_pos ⟨rfl, rfl⟩]
  have : PyData.eqv (.str (St a)) (.str (St b)) = (St a == St b) := by simp [PyData.eqv]
  rw [this, SX.S_beq_eq]
theorem oNe_St (a b : List Nat) : oNe (.str (St a)) (.str (St b)) = some (.bl (!decide (a = b))) := by
  show (if _ then some (D.bl (!PyData.eqv (.str (St a)) (.str (St b)))) else none) = _
  rw [if_pos ⟨rfl, rfl⟩]
  have : PyData.eqv (.str (St a)) (.str (St b)) = (St a == St b) := by simp [PyData.eqv]
  rw [this, SX.S_beq_eq]
theorem stw_St (c : Nat) (l : List Nat) : Txt.startswith (St (c :: l)) (St [45]) = decide (c = 45) := by
  unfold Txt.startswith Builtin.Str.subAt
  have e1 : (St [45]).length = 1 := St_len _
  have e2 : (St (c :: l)).length = l.length + 1 := St_len _
  rw [e1, e2]
  have e3 : (St (c :: l)).cps.extract 0 (0 + 1) = #[c] := by
    apply Array.toList_inj.mp
    simp [SX.S]
  rw [e3]
  show (decide (0 + 1 ≤ l.length + 1) && (#[c] == #[45])) = _
  rw [decide_eq_true (by omega), Bool.true_and]
  by_cases h : c = 45
  · subst h; rfl
  · rw [decide_eq_false h]
    simp [h]
/-! ### a fraction shown -/
def wL (p : Int × Int) : List Nat := if p.2 = 1 then iL' p.1 else iL' p.1 ++ [47] ++ nL p.2.natAbs
def pD' (p : Int × Int) : D := .tup [.int p.1, .int p.2]
/-- a fraction of at most thirty figures in lowest terms -/
structure F30 (p : Int × Int) : Prop where
  top : s30 p.1.natAbs
  bot : s30 p.2.natAbs
  pos : 0 < p.2
  cop : Int.gcd p.1 p.2 = 1
theorem wL_len {p : Int × Int} (h : F30 p) : (wL p).length ≤ 62 := by
  have h1 := iL_len h.top
  have h2 := nL_len h.bot
  unfold wL
  split
  · omega
  · rw [List.length_append, List.length_append, List.length_singleton]; omega
def s_show : EvS := (sSeq (sIf (tV (eB2 oEq (eB2 oIx (eVar 0) (eC (.int 1))) (eC (.int 1))))
    (sRet (eBi oStr (aCons (eB2 oIx (eVar 0) (eC (.int 0))) aNil)))
    sNil)
  (sRet (eB2 oAdd (eB2 oAdd (eBi oStr (aCons (eB2 oIx (eVar 0) (eC (.int 0))) aNil)) (eC (.str "/"))) (eBi oStr (aCons (eB2 oIx (eVar 0) (eC (.int 1))) aNil)))))
def f_show : List D → Rs D := runF 0 s_show
theorem show_eq {p : Int × Int} (h : F30 p) : f_show [pD' p] = .ok (.str (St (wL p))) := by
  have o1 := oStr_int h.top
  have o2 := oStr_int h.bot
  have l1 := iL_len h.top
  have l2 := nL_len h.bot
  have hp := h.pos
  obtain ⟨a, b⟩ := p
  have eb : iL' b = nL b.natAbs := by unfold iL'; rw [if_neg (by have : 0 < b := hp; omega)]
  unfold f_show
  rw [runF_ap]
  show endR (s_show [some (pD' (a, b))]) = _
  unfold s_show wL
  by_cases e : b = 1
  · subst e
    rw [sSeq_ap, sIf_ap, tV_of (b := true) (eB2_of (x := .int 1) (eB2_of (x := pD' (a, 1)) rfl rfl rfl) rfl rfl), bnd_ok, if_pos rfl, sRet_ap, eBi1_of (eB2_of (x := pD' (a, 1)) rfl rfl rfl) o1]
    rw [if_pos rfl]
    rfl
  · have t1 : oEq (.int b) (.int 1) = some (.bl false) := by rw [oEq_int, decide_eq_false e]
    refine step_nx (en' := [some (pD' (a, b))]) (by
      rw [sIf_ap, tV_of (b := false) (eB2_of (x := .int b) (eB2_of (x := pD' (a, b)) rfl rfl rfl) rfl t1), bnd_ok, if_neg (by simp)]
      rfl) ?_
    have a1 : oAdd (.str (St (iL' a))) (.str (Str.ofString "/")) = some (.str (St (iL' a ++ [47]))) := by rw [sl_slash]; exact oAdd_St (by rw [List.length_singleton]; show (iL' a).length + 1 < _; have : (iL' a).length ≤ 31 := l1; omega)
    have a2 : oAdd (.str (St (iL' a ++ [47]))) (.str (St (iL' b))) = some (.str (St (iL' a ++ [47] ++ iL' b))) := oAdd_St (by
      rw [List.length_append, List.length_singleton, eb]
      have q1 : (iL' a).length ≤ 31 := l1
      have q2 : (nL b.natAbs).length ≤ 30 := l2
      omega)
    rw [sRet_ap, eB2_of (eB2_of (eBi1_of (eB2_of (x := pD' (a, b)) rfl rfl rfl) o1) rfl a1) (eBi1_of (eB2_of (x := pD' (a, b)) rfl rfl rfl) o2) a2, eb, if_neg e]
    rfl
/-! ### figures read -/
def s_look (e : Nat) : EvS := (sIf (tNt (tV (eIsi .str (eVar 0))))
    (sRai e)
    sNil)
def f_look (e : Nat) : List D → Rs D := runF 0 (s_look e)
theorem look_eq (e : Nat) (x : Str) : f_look e [.str x] = .ok .non := rfl
abbrev bFig (e : Nat) : EvS := (sIf (tV (eB2 oSIn (eVar 1) (eC (.str "0123456789"))))
    (sRai e)
    sNil)
def s_fig (e : Nat) : EvS := (sSeq (sIf (tO (tV (eB2 oEq (eVar 0) (eC (.str "")))) (tO (tV (eB2 oGt (eBi oLen (aCons (eVar 0) aNil)) (eC (.int 30)))) (tAn (tV (eB2 oEq (eB2 oIx (eVar 0) (eC (.int 0))) (eC (.str "0")))) (tV (eB2 oNe (eVar 0) (eC (.str "0")))))))
    (sRai e)
    sNil)
  (sSeq (sFor (iS (eVar 0)) (set1 1) (bFig e))
  (sRet (eBi oIntS (aCons (eVar 0) aNil)))))
def f_fig (e : Nat) : List D → Rs D := runF 1 (s_fig e)
theorem fig_loop {e : Nat} {w : D} : ∀ (l : List Nat) (o : Option D), NumText.AllDigits l → ∃ o', evFor (set1 1) (bFig e) (l.map fun c => .str ⟨#[c]⟩) [some w, o] = .ok (.nx [some w, o'])
  | [], o, _ => ⟨o, rfl⟩
  | c :: l, o, h => by
    have hc := h.head
    obtain ⟨o', q⟩ := fig_loop (e := e) (w := w) l (some (.str ⟨#[c]⟩)) h.tail
    refine ⟨o', ?_⟩
    have t : oSIn (.str ⟨#[c]⟩) (.str (Str.ofString "0123456789")) = some (.bl false) := by
      rw [sl_figs]
      show some (D.bl (!(!(Builtin.Str.occurrences (St [48, 49, 50, 51, 52, 53, 54, 55, 56, 57]) (SX.S [c]) 0 (St [48, 49, 50, 51, 52, 53, 54, 55, 56, 57]).length 1).isEmpty))) = _
      rw [SX.in_one, decide_eq_true (by simp; omega)]
      rfl
    show bnd (ofO (some [some w, some (.str ⟨#[c]⟩)])) _ = _
    rw [ofO_some, bnd_ok]
    show bnd (sIf _ _ _ [some w, some (.str ⟨#[c]⟩)]) _ = _
    rw [sIf_ap, tV_of (eB2_of rfl rfl t), bnd_ok, if_neg (by simp)]
    exact q
theorem fig_eq {e n : Nat} (h : s30 n) : f_fig e [.str (St (nL n))] = .ok (.int (n : Nat)) := by
  have hl := nL_len h
  have hne := TL.numL_ne n
  obtain ⟨o', q⟩ := fig_loop (e := e) (w := .str (St (nL n))) (nL n) none (TL.numL_digits n)
  have e1 : oEq (.str (St (nL n))) (.str (Str.ofString "")) = some (.bl false) := by rw [sl_no, oEq_St, decide_eq_false hne]
  have e2 : oLen [.str (St (nL n))] = some (.int ((nL n).length : Nat)) := by
    show (if (St (nL n)).length ≤ sizeLine then some (D.int ((St (nL n)).length : Nat)) else none) = _
    rw [St_len, if_pos (by rw [sizeLine_eq]; omega)]
  have e3 : oGt (.int ((nL n).length : Nat)) (.int 30) = some (.bl false) := by
    show some (D.bl (decide ((30 : Int) < ((nL n).length : Nat)))) = _
    rw [decide_eq_false (by omega)]
  have t3 : tAn (tV (eB2 oEq (eB2 oIx (eVar 0) (eC (.int 0))) (eC (.str "0")))) (tV (eB2 oNe (eVar 0) (eC (.str "0")))) [some (.str (St (nL n))), none] = .ok false := by
    have ix : ∀ c l, nL n = c :: l → oIx (.str (St (nL n))) (.int 0) = some (.str (St [c])) := fun c l hc => by
      rw [hc]
      show (if (St (c :: l)).length ≤ sizeLine then (L2.atI (c :: l) 0).map fun c => D.str ⟨#[c]⟩ else none) = _
      rw [St_len, if_pos (by rw [← hc, sizeLine_eq]; omega)]
      have z0 : L2.atI (c :: l) ((0 : Nat) : Int) = some c := atI_nat (l := c :: l) (n := 0) (by simp)
      rw [show ((0 : Nat) : Int) = 0 from rfl] at z0
      rw [z0]
      rfl
    by_cases z : n = 0
    · subst z
      have hc := ix 48 [] nL_0
      have e4 : oNe (.str (St (nL 0))) (.str (Str.ofString "0")) = some (.bl false) := by rw [sl_0, oNe_St, nL_0, decide_eq_true rfl]; rfl
      have e5 : oEq (.str (St [48])) (.str (Str.ofString "0")) = some (.bl true) := by rw [sl_0, oEq_St, decide_eq_true rfl]
      rw [tAn_ap, tV_of (eB2_of (eB2_of rfl rfl hc) rfl e5), bnd_ok, if_pos rfl, tV_of (eB2_of rfl rfl e4)]
    · obtain ⟨c, l, ec, h1, h2⟩ := nL_head z
      have e5 : oEq (.str (St [c])) (.str (Str.ofString "0")) = some (.bl false) := by rw [sl_0, oEq_St, decide_eq_false (by simp; omega)]
      rw [tAn_ap, tV_of (eB2_of (eB2_of rfl rfl (ix c l ec)) rfl e5), bnd_ok, if_neg (by simp)]
  have ei : oIntS [.str (St (nL n))] = some (.int (n : Nat)) := by
    show (if (St (nL n)).length ≤ 640 then (intText? (St (nL n))).map D.int else none) = _
    rw [St_len, if_pos (by omega), show St (nL n) = Str.ofString (toString ((n : Nat) : Int)) from (SX.num_S n).symm, TL.int_num (by show (nL n).length ≤ 4300; omega)]
    rfl
  unfold f_fig
  rw [runF_ap]
  show endR (s_fig e [some (.str (St (nL n))), none]) = _
  unfold s_fig
  refine step_nx (en' := [some (.str (St (nL n))), none]) (by
    rw [sIf_ap, tO_ap, tV_of (eB2_of rfl rfl e1), bnd_ok, if_neg (by simp), tO_ap, tV_of (eB2_of (eBi1_of rfl e2) rfl e3), bnd_ok, if_neg (by simp), t3, bnd_ok, if_neg (by simp)]
    rfl) ?_
  refine step_nx (sFor_of (ds := (nL n).map fun c => .str ⟨#[c]⟩) rfl q) ?_
  rw [sRet_ap, eBi1_of rfl ei]
  rfl
/-! ### a fraction read -/
def s_read (e : Nat) : EvS := (sSeq (sEx (eCall (f_look e) (aCons (eVar 0) aNil)))
  (sSeq (sTu [1, 2, 3] (eM1 oPart (eVar 0) (eC (.str "/"))))
  (sSeq (sAs 4 (eC (.int 1)))
  (sSeq (sIf (tAn (tV (eM1 oStw (eVar 1) (eC (.str "-")))) (tV (eB2 oNe (eVar 1) (eC (.str "-0")))))
    (sSeq (sAs 4 (eU1 oNeg (eC (.int 1))))
  (sAs 1 (eSl (eVar 1) (oYes (eC (.int 1))) oNo)))
    sNil)
  (sSeq (sAs 5 (eTup (aCons (eB2 oMul (eVar 4) (eCall (f_fig e) (aCons (eVar 1) aNil))) (aCons (eC (.int 1)) aNil))))
  (sSeq (sIf (tV (eB2 oNe (eVar 2) (eC (.str ""))))
    (sSeq (sAs 5 (eTup (aCons (eB2 oIx (eVar 5) (eC (.int 0))) (aCons (eCall (f_fig e) (aCons (eVar 3) aNil)) aNil))))
  (sIf (tO (tV (eB2 oLt (eB2 oIx (eVar 5) (eC (.int 1))) (eC (.int 2)))) (tV (eB2 oNe (eCall f_div (aCons (eB2 oIx (eVar 5) (eC (.int 0))) (aCons (eB2 oIx (eVar 5) (eC (.int 1))) aNil))) (eC (.int 1)))))
    (sRai e)
    sNil))
    sNil)
  (sRet (eVar 5))))))))
def f_read (e : Nat) : List D → Rs D := runF 5 (s_read e)
theorem iL_free {i : Int} {c : Nat} (h : (c < 48 ∨ 57 < c) ∧ c ≠ 45) : c ∉ iL' i := by
  unfold iL'
  split
  · intro z
    rcases List.mem_cons.mp z with z | z
    · exact h.2 z
    · exact TL.numL_free h.1 z
  · exact TL.numL_free h.1
theorem eM1_of {op : D → D → Option D} {a b : EvE} {en : En} {x : Str} {y z : D} (h : a en = .ok (.str x)) (h2 : b en = .ok y) (q : op (.str x) y = some z) : eM1 op a b en = .ok z := by
  rw [eM1_ap, h, bnd_ok, if_pos (isSt_str x), h2, bnd_ok, q]
  rfl
/-- the head of a fraction's text: its whole number -/
theorem top_read {e : Nat} {i : Int} (h : s30 i.natAbs) (t : D) (x2 x3 : Option D) :
    sSeq (sAs 4 (eC (.int 1))) (sSeq (sIf (tAn (tV (eM1 oStw (eVar 1) (eC (.str "-")))) (tV (eB2 oNe (eVar 1) (eC (.str "-0")))))
    (sSeq (sAs 4 (eU1 oNeg (eC (.int 1))))
  (sAs 1 (eSl (eVar 1) (oYes (eC (.int 1))) oNo)))
    sNil) (sAs 5 (eTup (aCons (eB2 oMul (eVar 4) (eCall (f_fig e) (aCons (eVar 1) aNil))) (aCons (eC (.int 1)) aNil))))) [some t, some (.str (St (iL' i))), x2, x3, none, none] =
    .ok (.nx [some t, some (.str (St (nL i.natAbs))), x2, x3, some (.int (if i < 0 then -1 else 1)), some (.tup [.int i, .int 1])]) := by
  have fg := fig_eq (e := e) h
  have hl := nL_len h
  unfold iL'
  rw [seq_nx (en' := [some t, some (.str (St (if i < 0 then 45 :: nL i.natAbs else nL i.natAbs))), x2, x3, some (.int 1), none]) rfl]
  have sw : ∀ c l, oStw (.str (St (c :: l))) (.str (Str.ofString "-")) = some (.bl (decide (c = 45))) := fun c l => by
    show some (D.bl (Txt.startswith (St (c :: l)) (Str.ofString "-"))) = _
    rw [sl_minus, stw_St]
  by_cases hn : i < 0
  · rw [if_pos hn, if_pos hn]
    have ne : oNe (.str (St (45 :: nL i.natAbs))) (.str (Str.ofString "-0")) = some (.bl true) := by
      rw [sl_m0, oNe_St, decide_eq_false]
      · rfl
      · intro z
        have z1 : nL i.natAbs = [48] := (List.cons.inj z).2
        have z2 : i.natAbs = 0 := TL.numL_inj (show TL.numL i.natAbs = TL.numL 0 from z1.trans nL_0.symm)
        omega
    have sl : oSl (.str (St (45 :: nL i.natAbs))) (some 1) none = some (.str (St (nL i.natAbs))) := by
      show (if (St (45 :: nL i.natAbs)).length ≤ sizeLine then some (D.str (Txt.slice (St (45 :: nL i.natAbs)) (some 1) none)) else none) = _
      rw [St_len, if_pos (by rw [List.length_cons, sizeLine_eq]; omega), SX.slice_from (by decide)]
      rfl
    have esl : eSl (eVar 1) (oYes (eC (.int 1))) oNo [some t, some (.str (St (45 :: nL i.natAbs))), x2, x3, some (.int (-1)), none] = .ok (.str (St (nL i.natAbs))) := by
      show bnd (Except.ok (D.str (St (45 :: nL i.natAbs)))) _ = _
      rw [bnd_ok]
      show ofO (oSl (.str (St (45 :: nL i.natAbs))) (some 1) none) = _
      rw [sl]
      rfl
    have km : mulOk (-1) ((i.natAbs : Nat) : Int) = true := mulOk_l (by decide)
    have ei : (-1 : Int) * ((i.natAbs : Nat) : Int) = i := by omega
    rw [seq_nx (en' := [some t, some (.str (St (nL i.natAbs))), x2, x3, some (.int (-1)), none]) (by
      rw [sIf_ap, tAn_ap, tV_of (b := true) (eM1_of rfl rfl (sw 45 _)), bnd_ok, if_pos rfl, tV_of (eB2_of rfl rfl ne), bnd_ok, if_pos rfl]
      rw [seq_nx (en' := [some t, some (.str (St (45 :: nL i.natAbs))), x2, x3, some (.int (-1)), none]) rfl]
      exact sAs_of esl)]
    rw [sAs_of (d := .tup [.int i, .int 1]) (by
      rw [eTup_ap, aCons_ap, eB2_of rfl (eCall1_of rfl fg) (oMul_int km), ei]
      rfl)]
    rfl
  · rw [if_neg hn, if_neg hn]
    have ei : (1 : Int) * ((i.natAbs : Nat) : Int) = i := by omega
    have km : mulOk 1 ((i.natAbs : Nat) : Int) = true := mulOk_l (by decide)
    obtain ⟨c, l, ec, hc⟩ : ∃ c l, nL i.natAbs = c :: l ∧ c ≠ 45 := by
      cases e : nL i.natAbs with
      | nil => exact absurd e (TL.numL_ne _)
      | cons c l =>
        refine ⟨c, l, rfl, ?_⟩
        have := TL.numL_digits i.natAbs c (by rw [show TL.numL i.natAbs = nL i.natAbs from rfl, e]; exact List.mem_cons_self)
        omega
    have s1 : oStw (.str (St (nL i.natAbs))) (.str (Str.ofString "-")) = some (.bl false) := by rw [ec, sw, decide_eq_false hc]
    rw [seq_nx (en' := [some t, some (.str (St (nL i.natAbs))), x2, x3, some (.int 1), none]) (by
      rw [sIf_ap, tAn_ap, tV_of (b := false) (eM1_of rfl rfl s1), bnd_ok, if_neg (by simp), bnd_ok, if_neg (by simp)]
      rfl)]
    rw [sAs_of (d := .tup [.int i, .int 1]) (by
      rw [eTup_ap, aCons_ap, eB2_of rfl (eCall1_of rfl fg) (oMul_int km), ei]
      rfl)]
    rfl
theorem seq_assoc {s t u v w : EvS} {en en' : En} {r : Rs D} (h : sSeq s (sSeq t u) en = .ok (.nx en')) (q : endR (sSeq v w en') = r) : endR (sSeq s (sSeq t (sSeq u (sSeq v w))) en) = r := by
  rw [sSeq_ap] at h ⊢
  revert h
  cases s en with
  | error x => intro h; cases h
  | ok fl =>
    rw [bnd_ok, bnd_ok]
    cases fl with
    | nx en1 =>
      intro h
      show endR (sSeq t (sSeq u (sSeq v w)) en1) = _
      have h' : sSeq t u en1 = .ok (.nx en') := h
      rw [sSeq_ap] at h' ⊢
      revert h'
      cases t en1 with
      | error x => intro h; cases h
      | ok fl =>
        rw [bnd_ok, bnd_ok]
        cases fl with
        | nx en2 =>
          intro h'
          show endR (sSeq u (sSeq v w) en2) = _
          exact step_nx h' q
        | _ => intro h; cases h
    | _ => intro h; cases h
theorem read_eq {e : Nat} {p : Int × Int} (h : F30 p) : f_read e [.str (St (wL p))] = .ok (pD' p) := by
  have wl := wL_len h
  have hp := h.pos
  have hcop := h.cop
  have htop := h.top
  have hbot := h.bot
  obtain ⟨a, b⟩ := p
  have fre : 47 ∉ iL' a := iL_free ⟨.inl (by decide), by decide⟩
  have il : (iL' a).length ≤ 31 := iL_len htop
  unfold f_read
  rw [runF_ap]
  show endR (s_read e [some (.str (St (wL (a, b)))), none, none, none, none, none]) = _
  unfold s_read
  refine step_nx (en' := [some (.str (St (wL (a, b)))), none, none, none, none, none]) (by
    rw [sEx_ap, eCall1_of rfl (look_eq e _)]
    rfl) ?_
  by_cases e1 : b = 1
  · subst e1
    have ew : wL (a, 1) = iL' a := if_pos rfl
    rw [ew]
    have pt : oPart (.str (St (iL' a))) (.str (Str.ofString "/")) = some (.tup [.str (St (iL' a)), .str Str.empty, .str Str.empty]) := by
      rw [sl_slash]
      show (if _ ∧ _ then some (D.tup [.str (Txt.partition (St (iL' a)) (St [47])).1, .str (Txt.partition (St (iL' a)) (St [47])).2.1, .str (Txt.partition (St (iL' a)) (St [47])).2.2]) else none) = _
      rw [if_pos ⟨by rw [St_len]; rfl, by rw [St_len, sizeLine_eq]; omega⟩, TL.partition_none (y := St [47]) (s := 47) (S := []) rfl fre]
    refine step_nx (en' := [some (.str (St (iL' a))), some (.str (St (iL' a))), some (.str Str.empty), some (.str Str.empty), none, none]) (by
      rw [sTu_ap, eM1_of rfl rfl pt, bnd_ok]
      rfl) ?_
    refine seq_assoc (top_read htop _ _ _) ?_
    have ne : oNe (.str Str.empty) (.str (Str.ofString "")) = some (.bl false) := by
      have e0 : Str.empty = St [] := rfl
      rw [sl_no, e0, oNe_St, decide_eq_true rfl]
      rfl
    refine step_nx (en' := [some (.str (St (iL' a))), some (.str (St (nL a.natAbs))), some (.str Str.empty), some (.str Str.empty), some (.int (if a < 0 then -1 else 1)), some (.tup [.int a, .int 1])]) (by
      rw [sIf_ap, tV_of (eB2_of rfl rfl ne), bnd_ok, if_neg (by simp)]
      rfl) ?_
    rfl
  · have b2 : 2 ≤ b := by have : 0 < b := hp; omega
    have ew : wL (a, b) = iL' a ++ [47] ++ nL b.natAbs := if_neg e1
    rw [ew] at wl ⊢
    have pt : oPart (.str (St (iL' a ++ [47] ++ nL b.natAbs))) (.str (Str.ofString "/")) = some (.tup [.str (St (iL' a)), .str (St [47]), .str (St (nL b.natAbs))]) := by
      rw [sl_slash]
      show (if _ ∧ _ then some (D.tup [.str (Txt.partition (St (iL' a ++ [47] ++ nL b.natAbs)) (St [47])).1, .str (Txt.partition (St (iL' a ++ [47] ++ nL b.natAbs)) (St [47])).2.1, .str (Txt.partition (St (iL' a ++ [47] ++ nL b.natAbs)) (St [47])).2.2]) else none) = _
      have ec : St (iL' a ++ [47] ++ nL b.natAbs) = St (iL' a) ++ St [47] ++ St (nL b.natAbs) := by rw [SX.S_cat, SX.S_cat]
      rw [if_pos ⟨by rw [St_len]; rfl, by rw [St_len, sizeLine_eq]; omega⟩, ec, TL.partition_app (y := St [47]) (s := 47) (S := []) rfl fre]
    refine step_nx (en' := [some (.str (St (iL' a ++ [47] ++ nL b.natAbs))), some (.str (St (iL' a))), some (.str (St [47])), some (.str (St (nL b.natAbs))), none, none]) (by
      rw [sTu_ap, eM1_of rfl rfl pt, bnd_ok]
      rfl) ?_
    refine seq_assoc (top_read htop _ _ _) ?_
    have ne : oNe (.str (St [47])) (.str (Str.ofString "")) = some (.bl true) := by
      rw [sl_no, oNe_St, decide_eq_false (by simp)]
      rfl
    have fg := fig_eq (e := e) (n := b.natAbs) hbot
    have eb : ((b.natAbs : Nat) : Int) = b := by omega
    rw [eb] at fg
    have l2 : oLt (.int b) (.int 2) = some (.bl false) := by
      show some (D.bl (decide (b < 2))) = _
      rw [decide_eq_false (by omega)]
    have dv : f_div [.int a, .int b] = .ok (.int 1) := by
      rw [div_eq, show Int.gcd a b = 1 from hcop]
      rfl
    have n1 : oNe (.int 1) (.int 1) = some (.bl false) := oNe_self rfl
    refine step_nx (en' := [some (.str (St (iL' a ++ [47] ++ nL b.natAbs))), some (.str (St (nL a.natAbs))), some (.str (St [47])), some (.str (St (nL b.natAbs))), some (.int (if a < 0 then -1 else 1)), some (.tup [.int a, .int b])]) (by
      rw [sIf_ap, tV_of (eB2_of rfl rfl ne), bnd_ok, if_pos rfl]
      rw [seq_nx (en' := [some (.str (St (iL' a ++ [47] ++ nL b.natAbs))), some (.str (St (nL a.natAbs))), some (.str (St [47])), some (.str (St (nL b.natAbs))), some (.int (if a < 0 then -1 else 1)), some (.tup [.int a, .int b])]) (by
        rw [sAs_of (d := .tup [.int a, .int b]) (by
          rw [eTup_ap, aCons_ap, eB2_of (x := .tup [.int a, .int 1]) (y := .int 0) (z := .int a) rfl rfl rfl, bnd_ok, aCons_ap, eCall1_of rfl fg]
          rfl)]
        rfl)]
      rw [sIf_ap, tO_ap, tV_of (eB2_of (x := .int b) (eB2_of (x := .tup [.int a, .int b]) rfl rfl rfl) rfl l2), bnd_ok, if_neg (by simp), tV_of (eB2_of (eCall2_of (eB2_of (x := .tup [.int a, .int b]) rfl rfl rfl) (eB2_of (x := .tup [.int a, .int b]) rfl rfl rfl) dv) rfl n1), bnd_ok, if_neg (by simp)]
      rfl) ?_
    rfl
end Co
end
noncomputable section
namespace Co
open PySem PySem.Spec PyProof.Rows L2 Pi
/-! ### trees as texts -/
def rowT (r : Rd3) : List Nat := nL r.1 ++ [32] ++ wL r.2
def treeT (Rs : List Rd3) : List Nat := TL.joinL [10] (Rs.map rowT)
/-- a tree whose numbers have at most thirty figures -/
structure T30 (Rs : List Rd3) : Prop where
  tre : Tre Rs
  fr : ∀ r, r ∈ Rs → F30 r.2
theorem to_len {Rs : List Rd3} (h : T30 Rs) {r : Rd3} (hr : r ∈ Rs) : r.1 ≤ 40 := Nat.le_trans (h.tre.to r hr) h.tre.few
theorem row_len {Rs : List Rd3} (h : T30 Rs) {r : Rd3} (hr : r ∈ Rs) : (rowT r).length ≤ 100 := by
  have h1 := wL_len (h.fr r hr)
  have h2 := to_len h hr
  have h3 := nL_len (n := r.1) (by unfold s30; omega)
  unfold rowT
  rw [List.length_append, List.length_append, List.length_singleton]
  omega
theorem join_le (l : List (List Nat)) (h : ∀ x, x ∈ l → x.length ≤ 100) : (TL.joinL [10] l).length ≤ 101 * l.length := by
  induction l with
  | nil => exact Nat.le_refl _
  | cons x l ih =>
    have hx := h x List.mem_cons_self
    cases l with
    | nil =>
      show x.length ≤ _
      rw [List.length_singleton]
      omega
    | cons y l =>
      have ih' := ih fun z hz => h z (List.mem_cons_of_mem _ hz)
      show (x ++ ([10] ++ TL.joinL [10] (y :: l))).length ≤ _
      rw [List.length_append, List.length_append, List.length_singleton]
      simp only [List.length_cons] at ih' ⊢
      omega
theorem oJoin_rows {Rs : List Rd3} (h : T30 Rs) : oJoin (.str (Str.ofString "\n")) (.lst (Rs.map fun r => .str (St (rowT r)))) = some (.str (St (treeT Rs))) := by
  have few := h.tre.few
  have e : (Rs.map fun r => D.str (St (rowT r))) = ((Rs.map rowT).map St).map .str := by rw [List.map_map, List.map_map]; rfl
  have hs : (((Rs.map rowT).map St).map (·.length)).sum ≤ 100 * Rs.length := by
    have : ∀ l : List Rd3, (∀ r, r ∈ l → r ∈ Rs) → (((l.map rowT).map St).map (·.length)).sum ≤ 100 * l.length := fun l => by
      induction l with
      | nil => intro _; exact Nat.le_refl _
      | cons r l ih =>
        intro hl
        have h1 := row_len h (hl r List.mem_cons_self)
        have h2 := ih fun x hx => hl x (List.mem_cons_of_mem _ hx)
        simp only [List.map_cons, List.sum_cons, List.length_cons]
        rw [St_len]
        omega
    exact this Rs fun _ h => h
  rw [e]
  show (strsL (((Rs.map rowT).map St).map .str)).bind _ = _
  rw [strsL_map]
  show (if (((Rs.map rowT).map St).map (·.length)).sum + ((Rs.map rowT).map St).length * (Str.ofString "\n").length ≤ 16777216 then some (D.str (Txt.join (Str.ofString "\n") ((Rs.map rowT).map St))) else none) = _
  rw [sl_end, St_len, List.length_map, List.length_map, if_pos (by rw [List.length_singleton]; omega)]
  rw [show Txt.join (St [10]) ((Rs.map rowT).map St) = St (TL.joinL [10] (Rs.map rowT)) from SX.join_S _ _]
  rfl
abbrev bRow : EvE := (eB2 oAdd (eB2 oAdd (eBi oStr (aCons (eVar 1) aNil)) (eC (.str " "))) (eCall f_show (aCons (eVar 2) aNil)))
theorem rows_lc {Rs : List Rd3} (h : T30 Rs) (t : D) : evLc (setT [1, 2]) (fun _ => .ok true) bRow (wipE [1, 2] [some t, none, none]) (Rs.map rd) = .ok (Rs.map fun r => .str (St (rowT r))) :=
  evLc_map (q := rd) (r := fun r => .str (St (rowT r))) Rs fun r hr => ⟨[some t, some (.int (r.1 : Nat)), some (pD' r.2)], rfl, by
    have h2 := to_len h hr
    have s1 : s30 ((r.1 : Nat) : Int).natAbs := by unfold s30; omega
    have o1 := oStr_int s1
    have ei : iL' ((r.1 : Nat) : Int) = nL r.1 := by unfold iL'; rw [if_neg (by omega)]; rfl
    rw [ei] at o1
    have l1 := nL_len (n := r.1) (by unfold s30; omega)
    have l2 := wL_len (h.fr r hr)
    have a1 : oAdd (.str (St (nL r.1))) (.str (Str.ofString " ")) = some (.str (St (nL r.1 ++ [32]))) := by rw [sl_blank]; exact oAdd_St (by rw [List.length_singleton]; omega)
    have a2 : oAdd (.str (St (nL r.1 ++ [32]))) (.str (St (wL r.2))) = some (.str (St (nL r.1 ++ [32] ++ wL r.2))) := oAdd_St (by rw [List.length_append, List.length_singleton]; omega)
    exact eB2_of (eB2_of (eBi1_of rfl o1) rfl a1) (eCall1_of rfl (show_eq (h.fr r hr))) a2⟩
def s_ttext : EvS := (sRet (eM1 oJoin (eC (.str "\n")) (eLc [1, 2] (iL (eVar 0)) (setT [1, 2]) (fun _ => .ok true) bRow)))
def f_ttext : List D → Rs D := runF 2 s_ttext
theorem ttext_eq {Rs : List Rd3} (h : T30 Rs) : f_ttext [.lst (Rs.map rd)] = .ok (.str (St (treeT Rs))) := by
  have few := h.tre.few
  unfold f_ttext
  rw [runF_ap]
  show endR (s_ttext [some (.lst (Rs.map rd)), none, none]) = _
  unfold s_ttext
  rw [sRet_ap, eM1_of (x := Str.ofString "\n") rfl (eLc_ap (iL_of (l := Rs.map rd) rfl) (rows_lc h _) (by rw [List.length_map]; omega)) (oJoin_rows h)]
  rfl
def s_showt (c : Nat) : EvS := (sRet (eM1 oJoin (eC (.str "\n")) (eLc [1, 2] (iL (eMeth c (f_troad c) (eVar 0) aNil)) (setT [1, 2]) (fun _ => .ok true) bRow)))
def f_showt (c : Nat) : List D → Rs D := runF 2 (s_showt c)
theorem troad_eq {c : Nat} (Rs : List Rd3) : f_troad c [tree c Rs] = .ok (.lst (Rs.map rd)) := by
  have fl' : flatIn (.lst (Rs.map rd)) = true := flat_rds Rs
  show endR (bnd (bnd (eBi oList (aCons (eFld c 0 (eVar 0)) aNil) [some (tree c Rs)]) _) _) = _
  rw [eBi1_of eFld_tree rfl, bnd_ok]
  show endR (bnd (if flatIn (.lst (Rs.map rd)) = true then _ else _) _) = _
  rw [if_pos fl']
  rfl
theorem showt_eq {c : Nat} {Rs : List Rd3} (h : T30 Rs) : f_showt c [tree c Rs] = .ok (.str (St (treeT Rs))) := by
  have few := h.tre.few
  unfold f_showt
  rw [runF_ap]
  show endR (s_showt c [some (tree c Rs), none, none]) = _
  unfold s_showt
  rw [sRet_ap, eM1_of (x := Str.ofString "\n") rfl (eLc_ap (iL_of (l := Rs.map rd) (eMeth0_of (l := [.lst (Rs.map rd)]) rfl (troad_eq Rs))) (rows_lc h _) (by rw [List.length_map]; omega)) (oJoin_rows h)]
  rfl
/-! ### trees read -/
def s_roadin (e : Nat) : EvS := (sSeq (sAs 1 (eM1 oSplit (eVar 0) (eC (.str " "))))
  (sSeq (sIf (tV (eB2 oNe (eBi oLen (aCons (eVar 1) aNil)) (eC (.int 2))))
    (sRai e)
    sNil)
  (sRet (eTup (aCons (eCall (f_fig e) (aCons (eB2 oIx (eVar 1) (eC (.int 0))) aNil)) (aCons (eCall (f_read e) (aCons (eB2 oIx (eVar 1) (eC (.int 1))) aNil)) aNil))))))
def f_roadin (e : Nat) : List D → Rs D := runF 1 (s_roadin e)
theorem wL_free {p : Int × Int} {c : Nat} (h : (c < 48 ∨ 57 < c) ∧ c ≠ 45 ∧ c ≠ 47) : c ∉ wL p := by
  unfold wL
  split
  · exact iL_free ⟨h.1, h.2.1⟩
  · intro z
    rcases List.mem_append.mp z with z | z
    · rcases List.mem_append.mp z with z | z
      · exact iL_free ⟨h.1, h.2.1⟩ z
      · exact h.2.2 (List.mem_singleton.mp z)
    · exact TL.numL_free h.1 z
theorem roadin_eq {e : Nat} {Rs : List Rd3} (h : T30 Rs) {r : Rd3} (hr : r ∈ Rs) : f_roadin e [.str (St (rowT r))] = .ok (rd r) := by
  have rl := row_len h hr
  have h2 := to_len h hr
  have fg := fig_eq (e := e) (n := r.1) (by unfold s30; omega)
  have rdq := read_eq (e := e) (h.fr r hr)
  have sp : Txt.split (St (rowT r)) (St [32]) = [St (nL r.1), St (wL r.2)] := by
    have e1 : rowT r = TL.joinL [32] [nL r.1, wL r.2] := List.append_assoc ..
    rw [e1, SX.split_S (by simp) (by decide), SX.spl_join (by simp) (fun p hp => by
      simp only [List.mem_cons, List.not_mem_nil, or_false] at hp
      rcases hp with rfl | rfl
      · exact TL.numL_free (.inl (by decide))
      · exact wL_free ⟨.inl (by decide), by decide, by decide⟩)]
    rfl
  have os : oSplit (.str (St (rowT r))) (.str (Str.ofString " ")) = some (.lst [.str (St (nL r.1)), .str (St (wL r.2))]) := by
    rw [sl_blank]
    show (if _ ∧ _ then some (D.lst ((Txt.split (St (rowT r)) (St [32])).map .str)) else none) = _
    rw [if_pos ⟨by rw [St_len]; rfl, by rw [St_len, sizeLine_eq]; omega⟩, sp]
    rfl
  have ne : oNe (.int 2) (.int 2) = some (.bl false) := oNe_self rfl
  unfold f_roadin
  rw [runF_ap]
  show endR (s_roadin e [some (.str (St (rowT r))), none]) = _
  unfold s_roadin
  refine step_nx (en' := [some (.str (St (rowT r))), some (.lst [.str (St (nL r.1)), .str (St (wL r.2))])]) (sAs_of (eM1_of rfl rfl os)) ?_
  refine step_nx (en' := [some (.str (St (rowT r))), some (.lst [.str (St (nL r.1)), .str (St (wL r.2))])]) (by
    rw [sIf_ap, tV_of (eB2_of (eBi1_of (x := .lst [.str (St (nL r.1)), .str (St (wL r.2))]) rfl rfl) rfl ne), bnd_ok, if_neg (by simp)]
    rfl) ?_
  rw [sRet_ap, eTup_ap, aCons_ap, eCall1_of (eB2_of (x := .lst [.str (St (nL r.1)), .str (St (wL r.2))]) rfl rfl rfl) fg, bnd_ok, aCons_ap, eCall1_of (eB2_of (x := .lst [.str (St (nL r.1)), .str (St (wL r.2))]) rfl rfl rfl) rdq]
  rfl
def s_readt (e e2 c : Nat) : EvS := (sSeq (sEx (eCall (f_look e) (aCons (eVar 0) aNil)))
  (sSeq (sIf (tV (eB2 oEq (eVar 0) (eC (.str ""))))
    (sRet (eCall (f_tinit e2 c) (aCons (eLst aNil) aNil)))
    sNil)
  (sRet (eCall (f_tinit e2 c) (aCons (eLc [1] (iL (eM1 oSplit (eVar 0) (eC (.str "\n")))) (set1 1) (fun _ => .ok true) (eCall (f_roadin e) (aCons (eVar 1) aNil))) aNil)))))
def f_readt (e e2 c : Nat) : List D → Rs D := runF 1 (s_readt e e2 c)
theorem row_ne (r : Rd3) : rowT r ≠ [] := by unfold rowT; simp
theorem treeT_ne {Rs : List Rd3} (h : Rs ≠ []) : treeT Rs ≠ [] := by
  cases Rs with
  | nil => exact absurd rfl h
  | cons r Rs =>
    cases Rs with
    | nil => exact row_ne r
    | cons r2 Rs =>
      show rowT r ++ _ ≠ []
      intro z
      exact row_ne r (List.append_eq_nil_iff.mp z).1
theorem readt_eq {e e2 c : Nat} {Rs : List Rd3} (h : T30 Rs) : f_readt e e2 c [.str (St (treeT Rs))] = .ok (tree c Rs) := by
  have few := h.tre.few
  have jl : (treeT Rs).length ≤ 101 * Rs.length := by
    have := join_le (Rs.map rowT) fun x hx => by
      obtain ⟨r, hr, rfl⟩ := List.mem_map.mp hx
      exact row_len h hr
    rw [List.length_map] at this
    exact this
  have ini := tinit_eq (e := e2) (c := c) h.tre
  unfold f_readt
  rw [runF_ap]
  show endR (s_readt e e2 c [some (.str (St (treeT Rs))), none]) = _
  unfold s_readt
  refine step_nx (en' := [some (.str (St (treeT Rs))), none]) (by
    rw [sEx_ap, eCall1_of rfl (look_eq e _)]
    rfl) ?_
  by_cases h0 : Rs = []
  · subst h0
    have e1 : oEq (.str (St (treeT []))) (.str (Str.ofString "")) = some (.bl true) := by rw [sl_no]; exact oEq_St [] []
    rw [sSeq_ap, sIf_ap, tV_of (eB2_of rfl rfl e1), bnd_ok, if_pos rfl, sRet_ap, eCall1_of (x := .lst ([].map rd)) rfl ini]
    rfl
  · have e1 : oEq (.str (St (treeT Rs))) (.str (Str.ofString "")) = some (.bl false) := by rw [sl_no, oEq_St, decide_eq_false (treeT_ne h0)]
    refine step_nx (en' := [some (.str (St (treeT Rs))), none]) (by
      rw [sIf_ap, tV_of (eB2_of rfl rfl e1), bnd_ok, if_neg (by simp)]
      rfl) ?_
    have sp : Txt.split (St (treeT Rs)) (St [10]) = (Rs.map rowT).map St := by
      unfold treeT
      rw [SX.split_S (by simp) (by decide), SX.spl_join (fun z => h0 (List.map_eq_nil_iff.mp z)) (fun p hp => by
        obtain ⟨r, hr, rfl⟩ := List.mem_map.mp hp
        unfold rowT
        intro z
        rcases List.mem_append.mp z with z | z
        · rcases List.mem_append.mp z with z | z
          · exact TL.numL_free (.inl (by decide)) z
          · exact absurd (List.mem_singleton.mp z) (by decide)
        · exact wL_free ⟨.inl (by decide), by decide, by decide⟩ z)]
    have os : oSplit (.str (St (treeT Rs))) (.str (Str.ofString "\n")) = some (.lst (Rs.map fun r => .str (St (rowT r)))) := by
      rw [sl_end]
      show (if _ ∧ _ then some (D.lst ((Txt.split (St (treeT Rs)) (St [10])).map .str)) else none) = _
      rw [if_pos ⟨by rw [St_len]; rfl, by rw [St_len, sizeLine_eq]; omega⟩, sp, List.map_map, List.map_map]
      rfl
    have lc : evLc (set1 1) (fun _ => .ok true) (eCall (f_roadin e) (aCons (eVar 1) aNil)) (wipE [1] [some (.str (St (treeT Rs))), none]) (Rs.map fun r => .str (St (rowT r))) = .ok (Rs.map rd) :=
      evLc_map (q := fun r => .str (St (rowT r))) (r := rd) Rs fun r hr => ⟨_, rfl, eCall1_of rfl (roadin_eq h hr)⟩
    rw [sRet_ap, eCall1_of (eLc_ap (iL_of (eM1_of rfl rfl os)) lc (by rw [List.length_map]; omega)) ini]
    rfl
end Co
end
noncomputable section
namespace Lk81
open PySem PySem.Spec PyProof.Rows L2 Pi
/-! ### the text -/
def top (i : Nat) : Stmt := PySem.Challenge.pw_roadshare_k81_texts_there_and_back.main.body.getD i (.Pass ⟨0, 0, 0, 0⟩)
def xs : List Str := ["NoText", "NoTree"]
def cs : List Cl := []
abbrev g_FIGURES : D := .str "0123456789"
abbrev g_MOST_FIGURES : D := .int 30
abbrev g_MOST_ROADS : D := .int 40
structure Fx (G : Gb) : Prop where
  g_FIGURES : Glo G "FIGURES" g_FIGURES
  g_MOST_FIGURES : Glo G "MOST_FIGURES" g_MOST_FIGURES
  g_MOST_ROADS : Glo G "MOST_ROADS" g_MOST_ROADS
  b_abs : G.mg "abs" = none
  b_bool : G.mg "bool" = none
  b_int : G.mg "int" = none
  b_isinstance : G.mg "isinstance" = none
  b_len : G.mg "len" = none
  b_list : G.mg "list" = none
  b_max : G.mg "max" = none
  b_min : G.mg "min" = none
  b_range : G.mg "range" = none
  b_str : G.mg "str" = none
  b_tuple : G.mg "tuple" = none
  x_NoText : Xcl G "NoText" 0
  x_NoTree : Xcl G "NoTree" 1
  k_Tree : Ccl G 0 "Tree" ["kept"]
  kt_Tree : InsC G 0
/-! ### the defs: what they do (mirrors), and that the text does it -/
def s__law_numbers : EvS := (sSeq (sAs 2 (eLst aNil))
  (sSeq (sAs 3 (eFl (eVar 0)))
  (sSeq (sFor (iRn (aCons (eVar 1) aNil)) (set1 4)
 (sIf (tV (eB2 oGe (eVar 0) (eB2 oPow (eC (.int 10)) (eC (.int 18)))))
 (sSeq (sApp 2 (eB2 oMod (eVar 3) (eC (.int 1000))))
  (sAs 3 (eB2 oDiv (eVar 3) (eC (.int 1000)))))
 (sSeq (sAs 5 (eB2 oMod (eB2 oAdd (eB2 oAdd (eFl (eB2 oMul (eVar 0) (eB2 oAdd (eC (.int 48271)) (eB2 oMul (eC (.int 2)) (eVar 4))))) (eB2 oMul (eC (.int 7919)) (eVar 4))) (eC (.int 5))) (eC (.int 99991))))
  (sApp 2 (eB2 oMod (eB2 oMul (eVar 5) (eB2 oAdd (eB2 oAdd (eVar 5) (eC (.int 3))) (eVar 4))) (eC (.int 99989)))))))
  (sRet (eVar 2)))))
def f__law_numbers : List D → Rs D := runF 4 s__law_numbers
abbrev t__law_numbers : Stmt := top 32
abbrev n__law_numbers : List Str := ["_law_cell", "_law_many", "_law_found", "_law_rest", "_law_k", "_law_one"]
theorem d__law_numbers {G : Gb} (h : Fx G) (X : Cx) (W : WX) (g : Gs G n__law_numbers (defScope t__law_numbers) 0 W X) : PSs X (defBody t__law_numbers) (TSv G ⟨true, W, []⟩ (F0 2 4) [] s__law_numbers) :=
  (ds_cons (ds_as (F1 := [.s false, .s false, .n, .n, .n, .n]) (f := (.uq true)) g.g.toGv g.fn 2 (de_lst da_nil))
  (ds_cons (ds_as (F1 := [.s false, .s false, .o true, .n, .n, .n]) (f := (.uq true)) g.g.toGv g.fn 3 (de_fl (de_var g.g.toGv 0 (fl := .s false))))
  (ds_cons (ds_for (F := [.s false, .s false, .o true, .o true, .n, .n]) (F1 := [.s false, .s false, .o true, .o true, .n, .n]) (F2 := [.s false, .s false, .o true, .o true, .s true, .n]) (Fh := [.s false, .s false, .o true, .o true, .n, .n]) g (di_range1 g.g h.b_range (da_cons (de_var g.g.toGv 1 (fl := .s false)) da_nil)) (tg_name g.g.toGv g.fn 4)
 (dss_wk (F := [.s false, .s false, .o true, .o true, .s true, .n]) (F1 := [.s false, .s false, .o true, .o true, .s true, .n]) (F2 := [.s false, .s false, .o true, .o true, .n, .n]) (ds_one (ds_if (F := [.s false, .s false, .o true, .o true, .s true, .n]) (F1 := [.s false, .s false, .o true, .o true, .s true, .n]) (Fo := [.s false, .s false, .o true, .o true, .s true, .n]) (dt_cmp op_ge (ops_CI fun i j => decide (j ≤ i)) (de_var g.g.toGv 0 (fl := .s false)) (de_pow (de_int 10) (de_int 18)))
 (ds_cons (ds_app (F1 := [.s false, .s false, .o true, .o true, .s true, .n]) (f := (.uq true)) g.g.toGv 2 (dp0 := true) (dp := true) (de_mod (de_var g.g.toGv 3 (fl := .o true)) (de_int 1000)))
  (ds_one (ds_as (F1 := [.s false, .s false, .o true, .o true, .s true, .n]) (f := (.uq true)) g.g.toGv g.fn 3 (de_div (de_var g.g.toGv 3 (fl := .o true)) (de_int 1000)))))
 (dss_wk (F := [.s false, .s false, .o true, .o true, .s true, .n]) (F1 := [.s false, .s false, .o true, .o true, .s true, .o true]) (F2 := [.s false, .s false, .o true, .o true, .s true, .n]) (ds_cons (ds_as (F1 := [.s false, .s false, .o true, .o true, .s true, .n]) (f := (.uq true)) g.g.toGv g.fn 5 (de_mod (de_add (de_add (de_fl (de_mul (de_var g.g.toGv 0 (fl := .s false)) (de_add (de_int 48271) (de_mul (de_int 2) (de_var g.g.toGv 4 (fl := .s true)))))) (de_mul (de_int 7919) (de_var g.g.toGv 4 (fl := .s true)))) (de_int 5)) (de_int 99991)))
  (ds_one (ds_app (F1 := [.s false, .s false, .o true, .o true, .s true, .o true]) (f := (.uq true)) g.g.toGv 2 (dp0 := true) (dp := true) (de_mod (de_mul (de_var g.g.toGv 5 (fl := .o true)) (de_add (de_add (de_var g.g.toGv 5 (fl := .o true)) (de_int 3)) (de_var g.g.toGv 4 (fl := .s true)))) (de_int 99989))))))))))
  (ds_one (ds_ret (de_tk g.g.toGv 2 (fl := .o true)))))))
def s__law_divisor : EvS := (sSeq (sWh (tV (eB2 oNe (eVar 1) (eC (.int 0))))
 (sPar 0 1 (eFl (eVar 1)) (eB2 oMod (eVar 0) (eVar 1))))
  (sRet (eBi oAbs (aCons (eVar 0) aNil))))
def f__law_divisor : List D → Rs D := runF 0 s__law_divisor
abbrev t__law_divisor : Stmt := top 29
abbrev n__law_divisor : List Str := ["_law_one", "_law_other"]
theorem d__law_divisor {G : Gb} (h : Fx G) (X : Cx) (W : WX) (g : Gs G n__law_divisor (defScope t__law_divisor) 0 W X) : PSs X (defBody t__law_divisor) (TSv G ⟨true, W, []⟩ (F0 2 0) [] s__law_divisor) :=
  (ds_cons (ds_while (F := [.s false, .s false]) g.g (dt_cmp (opr_neG g.g.toGv) ops_ne (de_var g.g.toGv 1 (fl := .s false)) (de_int 0))
 (dss_wk (F := [.s false, .s false]) (F1 := [.s true, .s true]) (F2 := [.s false, .s false]) (ds_one (ds_par (F1 := [.s false, .s false]) (F2 := [.s false, .s false]) (f1 := (.uq true)) (f2 := (.uq true)) g 0 1 (de_fl (de_var g.g.toGv 1 (fl := .s false))) (de_mod (de_var g.g.toGv 0 (fl := .s false)) (de_var g.g.toGv 1 (fl := .s false)))))))
  (ds_one (ds_ret (de_abs g.g.toGv h.b_abs (da_cons (de_var g.g.toGv 0 (fl := .s false)) da_nil)))))
def s__law_low : EvS := (sSeq (sAs 2 (eCall f__law_divisor (aCons (eVar 0) (aCons (eVar 1) aNil))))
  (sRet (eTup (aCons (eB2 oDiv (eVar 0) (eVar 2)) (aCons (eB2 oDiv (eVar 1) (eVar 2)) aNil)))))
def f__law_low : List D → Rs D := runF 1 s__law_low
abbrev t__law_low : Stmt := top 30
abbrev n__law_low : List Str := ["_law_top", "_law_bottom", "_law_part"]
theorem d__law_low {G : Gb} (h : Fx G) (c__law_divisor : Cal G 1 "_law_divisor" true 2 f__law_divisor) (X : Cx) (W : WX) (g : Gs G n__law_low (defScope t__law_low) 1 W X) : PSs X (defBody t__law_low) (TSv G ⟨true, W, []⟩ (F0 2 1) [] s__law_low) :=
  (ds_cons (ds_as (F1 := [.s false, .s false, .n]) (f := (.uq true)) g.g.toGv g.fn 2 (de_call g.g c__law_divisor (da_cons (de_var g.g.toGv 0 (fl := .s false)) (da_cons (de_var g.g.toGv 1 (fl := .s false)) da_nil))))
  (ds_one (ds_ret (de_tup (da_cons (de_div (de_var g.g.toGv 0 (fl := .s false)) (de_var g.g.toGv 2 (fl := .o true))) (da_cons (de_div (de_var g.g.toGv 1 (fl := .s false)) (de_var g.g.toGv 2 (fl := .o true))) da_nil))))))
def s__law_ratios_by : EvS := (sSeq (sAs 1 (eCall f__law_numbers (aCons (eVar 0) (aCons (eC (.int 26)) aNil))))
  (sSeq (sAs 2 (eLst aNil))
  (sSeq (sFor (iRn (aCons (eB2 oMod (eB2 oIx (eVar 1) (eC (.int 0))) (eC (.int 13))) aNil)) (set1 3)
 (sSeq (sAs 4 (eFl (eB2 oIx (eVar 1) (eB2 oAdd (eC (.int 1)) (eB2 oMul (eC (.int 2)) (eVar 3))))))
  (sSeq (sAs 5 (eFl (eB2 oIx (eVar 1) (eB2 oAdd (eC (.int 2)) (eB2 oMul (eC (.int 2)) (eVar 3))))))
  (sIf (tV (eB2 oEq (eB2 oMod (eVar 4) (eC (.int 4))) (eC (.int 1))))
 (sSeq (sAs 6 (eB2 oSub (eB2 oMod (eB2 oMul (eB2 oMul (eB2 oAdd (eBi oAbs (aCons (eVar 0) aNil)) (eVar 4)) (eB2 oPow (eC (.int 7)) (eC (.int 40)))) (eB2 oAdd (eVar 5) (eC (.int 1)))) (eB2 oSub (eB2 oMul (eC (.int 2)) (eB2 oPow (eC (.int 10)) (eC (.int 30)))) (eC (.int 1)))) (eB2 oSub (eB2 oPow (eC (.int 10)) (eC (.int 30))) (eC (.int 1)))))
  (sApp 2 (eCall f__law_low (aCons (eVar 6) (aCons (eB2 oAdd (eC (.int 1)) (eB2 oMod (eB2 oMul (eB2 oAdd (eBi oAbs (aCons (eVar 0) aNil)) (eVar 5)) (eB2 oPow (eC (.int 3)) (eC (.int 60)))) (eB2 oSub (eB2 oPow (eC (.int 10)) (eC (.int 30))) (eC (.int 1))))) aNil)))))
 (sApp 2 (eCall f__law_low (aCons (eB2 oSub (eB2 oMod (eB2 oDiv (eVar 4) (eC (.int 4))) (eC (.int 41))) (eC (.int 20))) (aCons (eB2 oAdd (eC (.int 1)) (eB2 oMod (eVar 5) (eC (.int 9)))) aNil))))))))
  (sRet (eVar 2)))))
def f__law_ratios_by : List D → Rs D := runF 6 s__law_ratios_by
abbrev t__law_ratios_by : Stmt := top 37
abbrev n__law_ratios_by : List Str := ["_law_cell", "_law_xs", "_law_row", "_law_k", "_law_v", "_law_w", "_law_top"]
theorem d__law_ratios_by {G : Gb} (h : Fx G) (c__law_numbers : Cal G 1 "_law_numbers" true 2 f__law_numbers) (c__law_low : Cal G 2 "_law_low" true 2 f__law_low) (X : Cx) (W : WX) (g : Gs G n__law_ratios_by (defScope t__law_ratios_by) 2 W X) : PSs X (defBody t__law_ratios_by) (TSv G ⟨true, W, []⟩ (F0 1 6) [] s__law_ratios_by) :=
  (ds_cons (ds_as (F1 := [.s false, .n, .n, .n, .n, .n, .n]) (f := (.uq true)) g.g.toGv g.fn 1 (de_call g.g c__law_numbers (da_cons (de_var g.g.toGv 0 (fl := .s false)) (da_cons (de_int 26) da_nil))))
  (ds_cons (ds_as (F1 := [.s false, .o true, .n, .n, .n, .n, .n]) (f := (.uq true)) g.g.toGv g.fn 2 (de_lst da_nil))
  (ds_cons (ds_for (F := [.s false, .o true, .o true, .n, .n, .n, .n]) (F1 := [.s false, .o true, .o true, .n, .n, .n, .n]) (F2 := [.s false, .o true, .o true, .s true, .n, .n, .n]) (Fh := [.s false, .o true, .o true, .n, .n, .n, .n]) g (di_range1 g.g h.b_range (da_cons (de_mod (de_ix g.g.toGv (de_var g.g.toGv 1 (fl := .o true)) (de_int 0)) (de_int 13)) da_nil)) (tg_name g.g.toGv g.fn 3)
 (dss_wk (F := [.s false, .o true, .o true, .s true, .n, .n, .n]) (F1 := [.s false, .o true, .o true, .s true, .o true, .o true, .n]) (F2 := [.s false, .o true, .o true, .n, .n, .n, .n]) (ds_cons (ds_as (F1 := [.s false, .o true, .o true, .s true, .n, .n, .n]) (f := (.uq true)) g.g.toGv g.fn 4 (de_fl (de_ix g.g.toGv (de_var g.g.toGv 1 (fl := .o true)) (de_add (de_int 1) (de_mul (de_int 2) (de_var g.g.toGv 3 (fl := .s true)))))))
  (ds_cons (ds_as (F1 := [.s false, .o true, .o true, .s true, .o true, .n, .n]) (f := (.uq true)) g.g.toGv g.fn 5 (de_fl (de_ix g.g.toGv (de_var g.g.toGv 1 (fl := .o true)) (de_add (de_int 2) (de_mul (de_int 2) (de_var g.g.toGv 3 (fl := .s true)))))))
  (ds_one (ds_if (F := [.s false, .o true, .o true, .s true, .o true, .o true, .n]) (F1 := [.s false, .o true, .o true, .s true, .o true, .o true, .n]) (Fo := [.s false, .o true, .o true, .s true, .o true, .o true, .n]) (dt_cmp (opr_eqG g.g.toGv) ops_eq (de_mod (de_var g.g.toGv 4 (fl := .o true)) (de_int 4)) (de_int 1))
 (dss_wk (F := [.s false, .o true, .o true, .s true, .o true, .o true, .n]) (F1 := [.s false, .o true, .o true, .s true, .o true, .o true, .o true]) (F2 := [.s false, .o true, .o true, .s true, .o true, .o true, .n]) (ds_cons (ds_as (F1 := [.s false, .o true, .o true, .s true, .o true, .o true, .n]) (f := (.uq true)) g.g.toGv g.fn 6 (de_sub (de_mod (de_mul (de_mul (de_add (de_abs g.g.toGv h.b_abs (da_cons (de_var g.g.toGv 0 (fl := .s false)) da_nil)) (de_var g.g.toGv 4 (fl := .o true))) (de_pow (de_int 7) (de_int 40))) (de_add (de_var g.g.toGv 5 (fl := .o true)) (de_int 1))) (de_sub (de_mul (de_int 2) (de_pow (de_int 10) (de_int 30))) (de_int 1))) (de_sub (de_pow (de_int 10) (de_int 30)) (de_int 1))))
  (ds_one (ds_app (F1 := [.s false, .o true, .o true, .s true, .o true, .o true, .o true]) (f := (.uq true)) g.g.toGv 2 (dp0 := true) (dp := true) (de_call g.g c__law_low (da_cons (de_var g.g.toGv 6 (fl := .o true)) (da_cons (de_add (de_int 1) (de_mod (de_mul (de_add (de_abs g.g.toGv h.b_abs (da_cons (de_var g.g.toGv 0 (fl := .s false)) da_nil)) (de_var g.g.toGv 5 (fl := .o true))) (de_pow (de_int 3) (de_int 60))) (de_sub (de_pow (de_int 10) (de_int 30)) (de_int 1)))) da_nil)))))))
 (ds_one (ds_app (F1 := [.s false, .o true, .o true, .s true, .o true, .o true, .n]) (f := (.uq true)) g.g.toGv 2 (dp0 := true) (dp := true) (de_call g.g c__law_low (da_cons (de_sub (de_mod (de_div (de_var g.g.toGv 4 (fl := .o true)) (de_int 4)) (de_int 41)) (de_int 20)) (da_cons (de_add (de_int 1) (de_mod (de_var g.g.toGv 5 (fl := .o true)) (de_int 9))) da_nil)))))))))))
  (ds_one (ds_ret (de_tk g.g.toGv 2 (fl := .o true)))))))
def s__law_price_by : EvS := (sSeq (sIf (tV (eVar 1))
 (sSeq (sAs 3 (eB2 oMod (eB2 oMul (eB2 oMul (eFl (eB2 oAdd (eB2 oMod (eVar 2) (eB2 oPow (eC (.int 10)) (eC (.int 12)))) (eVar 0))) (eC (.int 6364136223846793005))) (eB2 oPow (eFl (eB2 oAdd (eVar 0) (eC (.int 3)))) (eC (.int 3)))) (eB2 oSub (eB2 oPow (eC (.int 10)) (eC (.int 29))) (eC (.int 1)))))
  (sRet (eCall f__law_low (aCons (eVar 3) (aCons (eB2 oAdd (eC (.int 1)) (eB2 oMod (eB2 oMul (eB2 oMul (eFl (eB2 oAdd (eVar 2) (eVar 0))) (eB2 oPow (eC (.int 7)) (eC (.int 30)))) (eFl (eB2 oAdd (eVar 0) (eC (.int 1))))) (eB2 oSub (eB2 oPow (eC (.int 10)) (eC (.int 29))) (eC (.int 1))))) aNil)))))
 sNil)
  (sRet (eCall f__law_low (aCons (eB2 oMod (eVar 0) (eC (.int 13))) (aCons (eB2 oAdd (eC (.int 1)) (eB2 oMod (eB2 oDiv (eVar 0) (eC (.int 13))) (eC (.int 6)))) aNil)))))
def f__law_price_by : List D → Rs D := runF 1 s__law_price_by
abbrev t__law_price_by : Stmt := top 33
abbrev n__law_price_by : List Str := ["_law_v", "_law_wide", "_law_cell", "_law_top"]
theorem d__law_price_by {G : Gb} (h : Fx G) (c__law_low : Cal G 2 "_law_low" true 2 f__law_low) (X : Cx) (W : WX) (g : Gs G n__law_price_by (defScope t__law_price_by) 2 W X) : PSs X (defBody t__law_price_by) (TSv G ⟨true, W, []⟩ (F0 3 1) [] s__law_price_by) :=
  (ds_cons (ds_if (F := [.s false, .s false, .s false, .n]) (F1 := [.s false, .s false, .s false, .n]) (Fo := [.s false, .s false, .s false, .n]) (dt_val (de_var g.g.toGv 1 (fl := .s false)))
 (ds_cons (ds_as (F1 := [.s false, .s false, .s false, .n]) (f := (.uq true)) g.g.toGv g.fn 3 (de_mod (de_mul (de_mul (de_fl (de_add (de_mod (de_var g.g.toGv 2 (fl := .s false)) (de_pow (de_int 10) (de_int 12))) (de_var g.g.toGv 0 (fl := .s false)))) (de_int 6364136223846793005)) (de_pow (de_fl (de_add (de_var g.g.toGv 0 (fl := .s false)) (de_int 3))) (de_int 3))) (de_sub (de_pow (de_int 10) (de_int 29)) (de_int 1))))
  (ds_one (ds_ret (de_call g.g c__law_low (da_cons (de_var g.g.toGv 3 (fl := .o true)) (da_cons (de_add (de_int 1) (de_mod (de_mul (de_mul (de_fl (de_add (de_var g.g.toGv 2 (fl := .s false)) (de_var g.g.toGv 0 (fl := .s false)))) (de_pow (de_int 7) (de_int 30))) (de_fl (de_add (de_var g.g.toGv 0 (fl := .s false)) (de_int 1)))) (de_sub (de_pow (de_int 10) (de_int 29)) (de_int 1)))) da_nil))))))
 ds_nil)
  (ds_one (ds_ret (de_call g.g c__law_low (da_cons (de_mod (de_var g.g.toGv 0 (fl := .s false)) (de_int 13)) (da_cons (de_add (de_int 1) (de_mod (de_div (de_var g.g.toGv 0 (fl := .s false)) (de_int 13)) (de_int 6))) da_nil))))))
def s__law_roads_by : EvS := (sSeq (sAs 2 (eCall f__law_numbers (aCons (eVar 0) (aCons (eB2 oAdd (eFl (eB2 oMul (eC (.int 2)) (eVar 1))) (eC (.int 6))) aNil))))
  (sSeq (sAs 3 (eB2 oMod (eB2 oIx (eVar 2) (eC (.int 0))) (eVar 1)))
  (sSeq (sAs 4 (eB2 oEq (eB2 oMod (eB2 oIx (eVar 2) (eC (.int 1))) (eC (.int 6))) (eC (.int 3))))
  (sSeq (sIf (tV (eVar 4))
 (sAs 3 (eBi oMin (aCons (eVar 3) (aCons (eC (.int 4)) aNil))))
 sNil)
  (sSeq (sAs 5 (eB2 oMod (eB2 oIx (eVar 2) (eC (.int 2))) (eBi oMax (aCons (eC (.int 1)) (aCons (eVar 3) aNil)))))
  (sSeq (sAs 6 (eLc [7] (iRn (aCons (eVar 3) aNil)) (set1 7) (fun _ => .ok true) (eC .non)))
  (sSeq (sFor (iRn (aCons (eC (.int 1)) (aCons (eB2 oAdd (eVar 3) (eC (.int 1))) aNil))) (set1 7)
 (sSeq (sAs 8 (eB2 oMod (eB2 oIx (eVar 2) (eB2 oAdd (eB2 oMul (eC (.int 2)) (eVar 7)) (eC (.int 4)))) (eVar 7)))
  (sSeq (sIf (tAn (tV (eB2 oEq (eB2 oMod (eB2 oIx (eVar 2) (eC (.int 3))) (eC (.int 3))) (eC (.int 1)))) (tV (eB2 oGt (eB2 oMod (eB2 oIx (eVar 2) (eB2 oAdd (eB2 oMul (eC (.int 2)) (eVar 7)) (eC (.int 4)))) (eC (.int 4))) (eC (.int 0)))))
 (sAs 8 (eB2 oSub (eVar 7) (eC (.int 1))))
 sNil)
  (sSeq (sIf (tV (eB2 oGt (eVar 8) (eC (.int 0))))
 (sAs 8 (eB2 oAdd (eC (.int 1)) (eB2 oMod (eB2 oAdd (eB2 oSub (eVar 8) (eC (.int 1))) (eVar 5)) (eVar 3))))
 sNil)
  (sSub 6 (eB2 oMod (eB2 oAdd (eB2 oSub (eVar 7) (eC (.int 1))) (eVar 5)) (eVar 3)) (eTup (aCons (eVar 8) (aCons (eCall f__law_price_by (aCons (eB2 oIx (eVar 2) (eB2 oAdd (eB2 oMul (eC (.int 2)) (eVar 7)) (eC (.int 5)))) (aCons (eVar 4) (aCons (eVar 0) aNil)))) aNil))))))))
  (sRet (eVar 6)))))))))
def f__law_roads_by : List D → Rs D := runF 7 s__law_roads_by
abbrev t__law_roads_by : Stmt := top 34
abbrev n__law_roads_by : List Str := ["_law_cell", "_law_most", "_law_xs", "_law_many", "_law_wide", "_law_turn", "_law_roads", "_law_k", "_law_to"]
theorem d__law_roads_by {G : Gb} (h : Fx G) (c__law_numbers : Cal G 1 "_law_numbers" true 2 f__law_numbers) (c__law_price_by : Cal G 3 "_law_price_by" true 3 f__law_price_by) (X : Cx) (W : WX) (g : Gs G n__law_roads_by (defScope t__law_roads_by) 3 W X) : PSs X (defBody t__law_roads_by) (TSv G ⟨true, W, []⟩ (F0 2 7) [] s__law_roads_by) :=
  (ds_cons (ds_as (F1 := [.s false, .s false, .n, .n, .n, .n, .n, .n, .n]) (f := (.uq true)) g.g.toGv g.fn 2 (de_call g.g c__law_numbers (da_cons (de_var g.g.toGv 0 (fl := .s false)) (da_cons (de_add (de_fl (de_mul (de_int 2) (de_var g.g.toGv 1 (fl := .s false)))) (de_int 6)) da_nil))))
  (ds_cons (ds_as (F1 := [.s false, .s false, .o true, .n, .n, .n, .n, .n, .n]) (f := (.uq true)) g.g.toGv g.fn 3 (de_mod (de_ix g.g.toGv (de_var g.g.toGv 2 (fl := .o true)) (de_int 0)) (de_var g.g.toGv 1 (fl := .s false))))
  (ds_cons (ds_as (F1 := [.s false, .s false, .o true, .o true, .n, .n, .n, .n, .n]) (f := (.uq true)) g.g.toGv g.fn 4 (de_cmp (opr_eqG g.g.toGv) ops_eq (de_mod (de_ix g.g.toGv (de_var g.g.toGv 2 (fl := .o true)) (de_int 1)) (de_int 6)) (de_int 3)))
  (ds_cons (ds_if (F := [.s false, .s false, .o true, .o true, .o true, .n, .n, .n, .n]) (F1 := [.s false, .s false, .o true, .o true, .o true, .n, .n, .n, .n]) (Fo := [.s false, .s false, .o true, .o true, .o true, .n, .n, .n, .n]) (dt_val (de_var g.g.toGv 4 (fl := .o true)))
 (ds_one (ds_as (F1 := [.s false, .s false, .o true, .o true, .o true, .n, .n, .n, .n]) (f := (.uq true)) g.g.toGv g.fn 3 (de_min g.g h.b_min (da_cons (de_var g.g.toGv 3 (fl := .o true)) (da_cons (de_int 4) da_nil)))))
 ds_nil)
  (ds_cons (ds_as (F1 := [.s false, .s false, .o true, .o true, .o true, .n, .n, .n, .n]) (f := (.uq true)) g.g.toGv g.fn 5 (de_mod (de_ix g.g.toGv (de_var g.g.toGv 2 (fl := .o true)) (de_int 2)) (de_max g.g h.b_max (da_cons (de_int 1) (da_cons (de_var g.g.toGv 3 (fl := .o true)) da_nil)))))
  (ds_cons (ds_asLc (F1 := [.s false, .s false, .o true, .o true, .o true, .o true, .n, .n, .n]) (F2 := [.s false, .s false, .z, .z, .z, .z, .n, .s false, .n]) (F3 := [.s false, .s false, .z, .z, .z, .z, .n, .s false, .n]) (F4 := [.s false, .s false, .z, .z, .z, .z, .n, .s false, .n]) (f := (.uq true)) g 6 [("_law_k", 7)] (di_range1 g.g h.b_range (da_cons (de_var g.g.toGv 3 (fl := .o true)) da_nil)) (blk_by (by decide +kernel)) (fun X' gb fb => (tg_nameB gb.toGv 7)) (fun X' gb => dts_nil) (fun X' gb => de_non))
  (ds_cons (ds_for (F := [.s false, .s false, .o true, .o true, .o true, .o true, .o true, .n, .n]) (F1 := [.s false, .s false, .o true, .o true, .o true, .o true, .o true, .n, .n]) (F2 := [.s false, .s false, .o true, .o true, .o true, .o true, .o true, .s true, .n]) (Fh := [.s false, .s false, .o true, .o true, .o true, .o true, .o true, .n, .n]) g (di_range2 g.g h.b_range (da_cons (de_int 1) (da_cons (de_add (de_var g.g.toGv 3 (fl := .o true)) (de_int 1)) da_nil))) (tg_name g.g.toGv g.fn 7)
 (dss_wk (F := [.s false, .s false, .o true, .o true, .o true, .o true, .o true, .s true, .n]) (F1 := [.s false, .s false, .o true, .o true, .o true, .o true, .o true, .s true, .s true]) (F2 := [.s false, .s false, .o true, .o true, .o true, .o true, .o true, .n, .n]) (ds_cons (ds_as (F1 := [.s false, .s false, .o true, .o true, .o true, .o true, .o true, .s true, .n]) (f := (.uq true)) g.g.toGv g.fn 8 (de_mod (de_ix g.g.toGv (de_var g.g.toGv 2 (fl := .o true)) (de_add (de_mul (de_int 2) (de_var g.g.toGv 7 (fl := .s true))) (de_int 4))) (de_var g.g.toGv 7 (fl := .s true))))
  (ds_cons (ds_if (F := [.s false, .s false, .o true, .o true, .o true, .o true, .o true, .s true, .o true]) (F1 := [.s false, .s false, .o true, .o true, .o true, .o true, .o true, .s true, .o true]) (Fo := [.s false, .s false, .o true, .o true, .o true, .o true, .o true, .s true, .o true]) (dt_w (dw_and (dt_cmp (opr_eqG g.g.toGv) ops_eq (de_mod (de_ix g.g.toGv (de_var g.g.toGv 2 (fl := .o true)) (de_int 3)) (de_int 3)) (de_int 1)) (dw_and1 (dt_cmp op_gt (ops_CI fun i j => decide (j < i)) (de_mod (de_ix g.g.toGv (de_var g.g.toGv 2 (fl := .o true)) (de_add (de_mul (de_int 2) (de_var g.g.toGv 7 (fl := .s true))) (de_int 4))) (de_int 4)) (de_int 0)))))
 (ds_one (ds_as (F1 := [.s false, .s false, .o true, .o true, .o true, .o true, .o true, .s true, .o true]) (f := (.uq true)) g.g.toGv g.fn 8 (de_sub (de_var g.g.toGv 7 (fl := .s true)) (de_int 1))))
 ds_nil)
  (ds_cons (ds_if (F := [.s false, .s false, .o true, .o true, .o true, .o true, .o true, .s true, .o true]) (F1 := [.s false, .s false, .o true, .o true, .o true, .o true, .o true, .s true, .o true]) (Fo := [.s false, .s false, .o true, .o true, .o true, .o true, .o true, .s true, .o true]) (dt_cmp op_gt (ops_CI fun i j => decide (j < i)) (de_var g.g.toGv 8 (fl := .o true)) (de_int 0))
 (ds_one (ds_as (F1 := [.s false, .s false, .o true, .o true, .o true, .o true, .o true, .s true, .o true]) (f := (.uq true)) g.g.toGv g.fn 8 (de_add (de_int 1) (de_mod (de_add (de_sub (de_var g.g.toGv 8 (fl := .o true)) (de_int 1)) (de_var g.g.toGv 5 (fl := .o true))) (de_var g.g.toGv 3 (fl := .o true))))))
 ds_nil)
  (ds_one (ds_sub (F1 := [.s false, .s false, .o true, .o true, .o true, .o true, .o true, .s true, .s true]) (F2 := [.s false, .s false, .o true, .o true, .o true, .o true, .o true, .s true, .s true]) (f := (.uq true)) g.g.toGv 6 (dp0 := true) (dp := true) (de_tup (da_cons (de_mv g.g.toGv 8 (fl := .o true)) (da_cons (de_call g.g c__law_price_by (da_cons (de_ix g.g.toGv (de_var g.g.toGv 2 (fl := .o true)) (de_add (de_mul (de_int 2) (de_var g.g.toGv 7 (fl := .s true))) (de_int 5))) (da_cons (de_var g.g.toGv 4 (fl := .o true)) (da_cons (de_var g.g.toGv 0 (fl := .s false)) da_nil)))) da_nil))) (de_mod (de_add (de_sub (de_var g.g.toGv 7 (fl := .s true)) (de_int 1)) (de_var g.g.toGv 5 (fl := .o true))) (de_var g.g.toGv 3 (fl := .o true))))))))))
  (ds_one (ds_ret (de_tk g.g.toGv 6 (fl := .o true)))))))))))
def s__law_word : EvS := (sSeq (sIf (tV (eB2 oEq (eB2 oIx (eVar 0) (eC (.int 1))) (eC (.int 1))))
 (sRet (eBi oStr (aCons (eB2 oIx (eVar 0) (eC (.int 0))) aNil)))
 sNil)
  (sRet (eB2 oAdd (eB2 oAdd (eBi oStr (aCons (eB2 oIx (eVar 0) (eC (.int 0))) aNil)) (eC (.str "/"))) (eBi oStr (aCons (eB2 oIx (eVar 0) (eC (.int 1))) aNil)))))
def f__law_word : List D → Rs D := runF 0 s__law_word
abbrev t__law_word : Stmt := top 35
abbrev n__law_word : List Str := ["_law_one"]
theorem d__law_word {G : Gb} (h : Fx G) (X : Cx) (W : WX) (g : Gs G n__law_word (defScope t__law_word) 0 W X) : PSs X (defBody t__law_word) (TSv G ⟨true, W, []⟩ (F0 1 0) [] s__law_word) :=
  (ds_cons (ds_if (F := [.s false]) (F1 := [.s false]) (Fo := [.s false]) (dt_cmp (opr_eqG g.g.toGv) ops_eq (de_ix g.g.toGv (de_var g.g.toGv 0 (fl := .s false)) (de_int 1)) (de_int 1))
 (ds_one (ds_ret (de_str1 g.g h.b_str (da_cons (de_ix g.g.toGv (de_var g.g.toGv 0 (fl := .s false)) (de_int 0)) da_nil))))
 ds_nil)
  (ds_one (ds_ret (de_add (de_add (de_str1 g.g h.b_str (da_cons (de_ix g.g.toGv (de_var g.g.toGv 0 (fl := .s false)) (de_int 0)) da_nil)) (de_str "/")) (de_str1 g.g h.b_str (da_cons (de_ix g.g.toGv (de_var g.g.toGv 0 (fl := .s false)) (de_int 1)) da_nil))))))
def s__law_tree_text : EvS := (sRet (eM1 oJoin (eC (.str "\n")) (eLc [1, 2] (iL (eVar 0)) (setT [1, 2]) (fun _ => .ok true) (eB2 oAdd (eB2 oAdd (eBi oStr (aCons (eVar 1) aNil)) (eC (.str " "))) (eCall f__law_word (aCons (eVar 2) aNil))))))
def f__law_tree_text : List D → Rs D := runF 2 s__law_tree_text
abbrev t__law_tree_text : Stmt := top 36
abbrev n__law_tree_text : List Str := ["_law_roads", "_law_to", "_law_price"]
theorem d__law_tree_text {G : Gb} (h : Fx G) (c__law_word : Cal G 1 "_law_word" true 1 f__law_word) (X : Cx) (W : WX) (g : Gs G n__law_tree_text (defScope t__law_tree_text) 1 W X) : PSs X (defBody t__law_tree_text) (TSv G ⟨true, W, []⟩ (F0 1 2) [] s__law_tree_text) :=
  (ds_one (ds_ret (de_join g.g.toGv (de_str "\n") (de_lc (F1 := [.s false, .n, .n]) (F2 := [.s false, .s false, .s false]) (F3 := [.s false, .s false, .s false]) (F4 := [.s false, .s false, .s false]) (f := (.uq true)) g.g [("_law_to", 1), ("_law_price", 2)] (di_list g.g (de_var g.g.toGv 0 (fl := .s false))) (blk_by (by decide +kernel)) (fun X' gb fb => (tg_tupL gb [1, 2])) (fun X' gb => dts_nil) (fun X' gb => (de_add (de_add (de_str1 gb h.b_str (da_cons (de_var gb.toGv 1 (fl := .s false)) da_nil)) (de_str " ")) (de_call gb c__law_word (da_cons (de_var gb.toGv 2 (fl := .s false)) da_nil))))))))
def s_look_text : EvS := (sIf (tNt (tV (eIsi .str (eVar 0))))
 (sRai 0)
 sNil)
def f_look_text : List D → Rs D := runF 0 s_look_text
abbrev t_look_text : Stmt := top 21
abbrev n_look_text : List Str := ["text"]
theorem d_look_text {G : Gb} (h : Fx G) (X : Cx) (W : WX) (g : Gs G n_look_text (defScope t_look_text) 0 W X) : PSs X (defBody t_look_text) (TSv G ⟨true, W, []⟩ (F0 1 0) [.s false] s_look_text) :=
  (ds_one (ds_if (F := [.s false]) (F1 := [.s false]) (Fo := [.s false]) (dt_not (dt_val (de_isi g.g.toGv .str h.b_isinstance h.b_str (de_var g.g.toGv 0 (fl := .s false)) tboot_str)))
 (ds_one (ds_rai g.g h.x_NoText))
 ds_nil))
def s_divisor : EvS := (sSeq (sWh (tV (eB2 oNe (eVar 1) (eC (.int 0))))
 (sSeq (sAs 2 (eB2 oMod (eVar 0) (eVar 1)))
  (sSeq (sAs 0 (eFl (eVar 1)))
  (sAs 1 (eFl (eVar 2))))))
  (sRet (eBi oAbs (aCons (eVar 0) aNil))))
def f_divisor : List D → Rs D := runF 1 s_divisor
abbrev t_divisor : Stmt := top 8
abbrev n_divisor : List Str := ["one", "other", "rest"]
theorem d_divisor {G : Gb} (h : Fx G) (X : Cx) (W : WX) (g : Gs G n_divisor (defScope t_divisor) 0 W X) : PSs X (defBody t_divisor) (TSv G ⟨true, W, []⟩ (F0 2 1) [] s_divisor) :=
  (ds_cons (ds_while (F := [.s false, .s false, .n]) g.g (dt_cmp (opr_neG g.g.toGv) ops_ne (de_var g.g.toGv 1 (fl := .s false)) (de_int 0))
 (dss_wk (F := [.s false, .s false, .n]) (F1 := [.o true, .o true, .s true]) (F2 := [.s false, .s false, .n]) (ds_cons (ds_as (F1 := [.s false, .s false, .n]) (f := (.uq true)) g.g.toGv g.fn 2 (de_mod (de_var g.g.toGv 0 (fl := .s false)) (de_var g.g.toGv 1 (fl := .s false))))
  (ds_cons (ds_as (F1 := [.s false, .s false, .o true]) (f := (.uq true)) g.g.toGv g.fn 0 (de_fl (de_var g.g.toGv 1 (fl := .s false))))
  (ds_one (ds_as (F1 := [.o true, .s false, .s true]) (f := (.uq true)) g.g.toGv g.fn 1 (de_fl (de_mv g.g.toGv 2 (fl := .o true)))))))))
  (ds_one (ds_ret (de_abs g.g.toGv h.b_abs (da_cons (de_var g.g.toGv 0 (fl := .s false)) da_nil)))))
def s_is_whole : EvS := (sRet (eAn (eIsi .int (eVar 0)) (eNt (eIsi .bool (eVar 0)))))
def f_is_whole : List D → Rs D := runF 0 s_is_whole
abbrev t_is_whole : Stmt := top 7
abbrev n_is_whole : List Str := ["thing"]
theorem d_is_whole {G : Gb} (h : Fx G) (X : Cx) (W : WX) (g : Gs G n_is_whole (defScope t_is_whole) 0 W X) : PSs X (defBody t_is_whole) (TSv G ⟨true, W, []⟩ (F0 1 0) [] s_is_whole) :=
  (ds_one (ds_ret (de_and (de_isi g.g.toGv .int h.b_isinstance h.b_int (de_var g.g.toGv 0 (fl := .s false)) tboot_int) (de_one (de_not (de_isi g.g.toGv .bool h.b_isinstance h.b_bool (de_var g.g.toGv 0 (fl := .s false)) tboot_bool))))))
def s_is_ratio : EvS := (sSeq (sIf (tO (tNt (tV (eIsi .tuple (eVar 0)))) (tV (eB2 oNe (eBi oLen (aCons (eVar 0) aNil)) (eC (.int 2)))))
 (sRet (eC (.bl false)))
 sNil)
  (sSeq (sIf (tO (tNt (tV (eCall f_is_whole (aCons (eB2 oIx (eVar 0) (eC (.int 0))) aNil)))) (tO (tNt (tV (eCall f_is_whole (aCons (eB2 oIx (eVar 0) (eC (.int 1))) aNil)))) (tV (eB2 oLt (eB2 oIx (eVar 0) (eC (.int 1))) (eC (.int 1))))))
 (sRet (eC (.bl false)))
 sNil)
  (sRet (eB2 oEq (eCall f_divisor (aCons (eB2 oIx (eVar 0) (eC (.int 0))) (aCons (eB2 oIx (eVar 0) (eC (.int 1))) aNil))) (eC (.int 1))))))
def f_is_ratio : List D → Rs D := runF 0 s_is_ratio
abbrev t_is_ratio : Stmt := top 10
abbrev n_is_ratio : List Str := ["thing"]
theorem d_is_ratio {G : Gb} (h : Fx G) (c_divisor : Cal G 1 "divisor" true 2 f_divisor) (c_is_whole : Cal G 1 "is_whole" true 1 f_is_whole) (X : Cx) (W : WX) (g : Gs G n_is_ratio (defScope t_is_ratio) 1 W X) : PSs X (defBody t_is_ratio) (TSv G ⟨true, W, []⟩ (F0 1 0) [] s_is_ratio) :=
  (ds_cons (ds_if (F := [.s false]) (F1 := [.s false]) (Fo := [.s false]) (dt_w (dw_or (dt_not (dt_val (de_isi g.g.toGv .tuple h.b_isinstance h.b_tuple (de_var g.g.toGv 0 (fl := .s false)) tboot_tuple))) (dw_or1 (dt_cmp (opr_neG g.g.toGv) ops_ne (de_len g.g.toGv h.b_len (da_cons (de_var g.g.toGv 0 (fl := .s false)) da_nil)) (de_int 2)))))
 (ds_one (ds_ret (de_bl false)))
 ds_nil)
  (ds_cons (ds_if (F := [.s false]) (F1 := [.s false]) (Fo := [.s false]) (dt_w (dw_or (dt_not (dt_val (de_call g.g c_is_whole (da_cons (de_ix g.g.toGv (de_var g.g.toGv 0 (fl := .s false)) (de_int 0)) da_nil)))) (dw_or (dt_not (dt_val (de_call g.g c_is_whole (da_cons (de_ix g.g.toGv (de_var g.g.toGv 0 (fl := .s false)) (de_int 1)) da_nil)))) (dw_or1 (dt_cmp op_lt (ops_CI fun i j => decide (i < j)) (de_ix g.g.toGv (de_var g.g.toGv 0 (fl := .s false)) (de_int 1)) (de_int 1))))))
 (ds_one (ds_ret (de_bl false)))
 ds_nil)
  (ds_one (ds_ret (de_cmp (opr_eqG g.g.toGv) ops_eq (de_call g.g c_divisor (da_cons (de_ix g.g.toGv (de_var g.g.toGv 0 (fl := .s false)) (de_int 0)) (da_cons (de_ix g.g.toGv (de_var g.g.toGv 0 (fl := .s false)) (de_int 1)) da_nil))) (de_int 1))))))
def s_is_road : EvS := (sSeq (sIf (tO (tNt (tV (eIsi .tuple (eVar 0)))) (tV (eB2 oNe (eBi oLen (aCons (eVar 0) aNil)) (eC (.int 2)))))
 (sRet (eC (.bl false)))
 sNil)
  (sSeq (sIf (tO (tNt (tV (eCall f_is_whole (aCons (eB2 oIx (eVar 0) (eC (.int 0))) aNil)))) (tO (tV (eB2 oLt (eB2 oIx (eVar 0) (eC (.int 0))) (eC (.int 0)))) (tV (eB2 oGt (eB2 oIx (eVar 0) (eC (.int 0))) (eVar 1)))))
 (sRet (eC (.bl false)))
 sNil)
  (sRet (eAn (eCall f_is_ratio (aCons (eB2 oIx (eVar 0) (eC (.int 1))) aNil)) (eB2 oGe (eB2 oIx (eB2 oIx (eVar 0) (eC (.int 1))) (eC (.int 0))) (eC (.int 0)))))))
def f_is_road : List D → Rs D := runF 0 s_is_road
abbrev t_is_road : Stmt := top 13
abbrev n_is_road : List Str := ["thing", "many"]
theorem d_is_road {G : Gb} (h : Fx G) (c_is_ratio : Cal G 2 "is_ratio" true 1 f_is_ratio) (c_is_whole : Cal G 1 "is_whole" true 1 f_is_whole) (X : Cx) (W : WX) (g : Gs G n_is_road (defScope t_is_road) 2 W X) : PSs X (defBody t_is_road) (TSv G ⟨true, W, []⟩ (F0 2 0) [] s_is_road) :=
  (ds_cons (ds_if (F := [.s false, .s false]) (F1 := [.s false, .s false]) (Fo := [.s false, .s false]) (dt_w (dw_or (dt_not (dt_val (de_isi g.g.toGv .tuple h.b_isinstance h.b_tuple (de_var g.g.toGv 0 (fl := .s false)) tboot_tuple))) (dw_or1 (dt_cmp (opr_neG g.g.toGv) ops_ne (de_len g.g.toGv h.b_len (da_cons (de_var g.g.toGv 0 (fl := .s false)) da_nil)) (de_int 2)))))
 (ds_one (ds_ret (de_bl false)))
 ds_nil)
  (ds_cons (ds_if (F := [.s false, .s false]) (F1 := [.s false, .s false]) (Fo := [.s false, .s false]) (dt_w (dw_or (dt_not (dt_val (de_call g.g c_is_whole (da_cons (de_ix g.g.toGv (de_var g.g.toGv 0 (fl := .s false)) (de_int 0)) da_nil)))) (dw_or (dt_cmp op_lt (ops_CI fun i j => decide (i < j)) (de_ix g.g.toGv (de_var g.g.toGv 0 (fl := .s false)) (de_int 0)) (de_int 0)) (dw_or1 (dt_cmp op_gt (ops_CI fun i j => decide (j < i)) (de_ix g.g.toGv (de_var g.g.toGv 0 (fl := .s false)) (de_int 0)) (de_var g.g.toGv 1 (fl := .s false)))))))
 (ds_one (ds_ret (de_bl false)))
 ds_nil)
  (ds_one (ds_ret (de_and (de_call g.g c_is_ratio (da_cons (de_ix g.g.toGv (de_var g.g.toGv 0 (fl := .s false)) (de_int 1)) da_nil)) (de_one (de_cmp op_ge (ops_CI fun i j => decide (j ≤ i)) (de_ix g.g.toGv (de_ix g.g.toGv (de_var g.g.toGv 0 (fl := .s false)) (de_int 1)) (de_int 0)) (de_int 0))))))))
def s_way_from : EvS := (sSeq (sAs 2 (eLst aNil))
  (sSeq (sWh (tV (eB2 oNe (eVar 1) (eC (.int 0))))
 (sSeq (sIf (tV (eB2 oEq (eBi oLen (aCons (eVar 2) aNil)) (eBi oLen (aCons (eVar 0) aNil))))
 (sRet (eC .non))
 sNil)
  (sSeq (sApp 2 (eFl (eVar 1)))
  (sAs 1 (eFl (eB2 oIx (eB2 oIx (eVar 0) (eB2 oSub (eVar 1) (eC (.int 1)))) (eC (.int 0))))))))
  (sRet (eVar 2))))
def f_way_from : List D → Rs D := runF 1 s_way_from
abbrev t_way_from : Stmt := top 14
abbrev n_way_from : List Str := ["roads", "k", "way"]
theorem d_way_from {G : Gb} (h : Fx G) (X : Cx) (W : WX) (g : Gs G n_way_from (defScope t_way_from) 0 W X) : PSs X (defBody t_way_from) (TSv G ⟨true, W, []⟩ (F0 2 1) [] s_way_from) :=
  (ds_cons (ds_as (F1 := [.s false, .s false, .n]) (f := (.uq true)) g.g.toGv g.fn 2 (de_lst da_nil))
  (ds_cons (ds_while (F := [.s false, .s false, .o true]) g.g (dt_cmp (opr_neG g.g.toGv) ops_ne (de_var g.g.toGv 1 (fl := .s false)) (de_int 0))
 (dss_wk (F := [.s false, .s false, .o true]) (F1 := [.s false, .o true, .o true]) (F2 := [.s false, .s false, .o true]) (ds_cons (ds_if (F := [.s false, .s false, .o true]) (F1 := [.s false, .s false, .o true]) (Fo := [.s false, .s false, .o true]) (dt_cmp (opr_eqG g.g.toGv) ops_eq (de_len g.g.toGv h.b_len (da_cons (de_var g.g.toGv 2 (fl := .o true)) da_nil)) (de_len g.g.toGv h.b_len (da_cons (de_var g.g.toGv 0 (fl := .s false)) da_nil)))
 (ds_one (ds_ret de_non))
 ds_nil)
  (ds_cons (ds_app (F1 := [.s false, .s false, .o true]) (f := (.uq true)) g.g.toGv 2 (dp0 := true) (dp := true) (de_fl (de_var g.g.toGv 1 (fl := .s false))))
  (ds_one (ds_as (F1 := [.s false, .s false, .o true]) (f := (.uq true)) g.g.toGv g.fn 1 (de_fl (de_ix g.g.toGv (de_ix g.g.toGv (de_var g.g.toGv 0 (fl := .s false)) (de_sub (de_var g.g.toGv 1 (fl := .s false)) (de_int 1))) (de_int 0)))))))))
  (ds_one (ds_ret (de_tk g.g.toGv 2 (fl := .o true))))))
def s_Tree___init__ : EvS := (sSeq (sIf (tO (tNt (tV (eIsi .list (eVar 1)))) (tV (eB2 oGt (eBi oLen (aCons (eVar 1) aNil)) (eC g_MOST_ROADS))))
 (sRai 1)
 sNil)
  (sSeq (sFor (iL (eVar 1)) (set1 2)
 (sIf (tNt (tV (eCall f_is_road (aCons (eVar 2) (aCons (eBi oLen (aCons (eVar 1) aNil)) aNil)))))
 (sRai 1)
 sNil))
  (sSeq (sFor (iRn (aCons (eC (.int 1)) (aCons (eB2 oAdd (eBi oLen (aCons (eVar 1) aNil)) (eC (.int 1))) aNil))) (set1 3)
 (sIf (tV (eB2 (oIs false) (eCall f_way_from (aCons (eVar 1) (aCons (eVar 3) aNil))) (eC .non)))
 (sRai 1)
 sNil))
  (sSetf 0 0 0 (eBi oList (aCons (eVar 1) aNil))))))
def f_Tree___init__ : List D → Rs D := runI 0 2 s_Tree___init__
abbrev t_Tree___init__ : Stmt := (C8.clsBody (top 15)).getD 0 (.Pass ⟨0, 0, 0, 0⟩)
abbrev n_Tree___init__ : List Str := ["self", "roads", "road", "k"]
theorem d_Tree___init__ {G : Gb} (h : Fx G) (c_is_road : Cal G 3 "is_road" true 2 f_is_road) (c_way_from : Cal G 1 "way_from" true 2 f_way_from) (X : Cx) (W : WX) (g : Gs G n_Tree___init__ (defScope t_Tree___init__) 3 W X) : PSs X (defBody t_Tree___init__) (TSv G ⟨false, W, []⟩ (F0i 1 2) [.z, .s false, .n, .n] s_Tree___init__) :=
  (ds_cons (ds_if (F := [.z, .s false, .n, .n]) (F1 := [.z, .s false, .n, .n]) (Fo := [.z, .s false, .n, .n]) (dt_w (dw_or (dt_not (dt_val (de_isi g.g.toGv .list h.b_isinstance h.b_list (de_var g.g.toGv 1 (fl := .s false)) tboot_list))) (dw_or1 (dt_cmp op_gt (ops_CI fun i j => decide (j < i)) (de_len g.g.toGv h.b_len (da_cons (de_var g.g.toGv 1 (fl := .s false)) da_nil)) (de_glo g.g.toGv h.g_MOST_ROADS)))))
 (ds_one (ds_rai g.g h.x_NoTree))
 ds_nil)
  (ds_cons (ds_for (F := [.z, .s false, .n, .n]) (F1 := [.z, .s false, .n, .n]) (F2 := [.z, .s false, .s false, .n]) (Fh := [.z, .s false, .n, .n]) g (di_list g.g (de_var g.g.toGv 1 (fl := .s false))) (tg_name g.g.toGv g.fn 2)
 (dss_wk (F := [.z, .s false, .s false, .n]) (F1 := [.z, .s false, .s false, .n]) (F2 := [.z, .s false, .n, .n]) (ds_one (ds_if (F := [.z, .s false, .s false, .n]) (F1 := [.z, .s false, .s false, .n]) (Fo := [.z, .s false, .s false, .n]) (dt_not (dt_val (de_call g.g c_is_road (da_cons (de_var g.g.toGv 2 (fl := .s false)) (da_cons (de_len g.g.toGv h.b_len (da_cons (de_var g.g.toGv 1 (fl := .s false)) da_nil)) da_nil)))))
 (ds_one (ds_rai g.g h.x_NoTree))
 ds_nil))))
  (ds_cons (ds_for (F := [.z, .s false, .n, .n]) (F1 := [.z, .s false, .n, .n]) (F2 := [.z, .s false, .n, .s true]) (Fh := [.z, .s false, .n, .n]) g (di_range2 g.g h.b_range (da_cons (de_int 1) (da_cons (de_add (de_len g.g.toGv h.b_len (da_cons (de_var g.g.toGv 1 (fl := .s false)) da_nil)) (de_int 1)) da_nil))) (tg_name g.g.toGv g.fn 3)
 (dss_wk (F := [.z, .s false, .n, .s true]) (F1 := [.z, .s false, .n, .s true]) (F2 := [.z, .s false, .n, .n]) (ds_one (ds_if (F := [.z, .s false, .n, .s true]) (F1 := [.z, .s false, .n, .s true]) (Fo := [.z, .s false, .n, .s true]) (dt_cmp opr_is (ops_is false) (de_call g.g c_way_from (da_cons (de_var g.g.toGv 1 (fl := .s false)) (da_cons (de_var g.g.toGv 3 (fl := .s true)) da_nil))) de_non)
 (ds_one (ds_rai g.g h.x_NoTree))
 ds_nil))))
  (ds_one (ds_setf (F1 := [.z, .s false, .n, .n]) (j := 0) g.g.toGv h.k_Tree 0 (de_list g.g h.b_list (da_cons (de_var g.g.toGv 1 (fl := .s false)) da_nil)))))))
def s_figures_in : EvS := (sSeq (sIf (tO (tV (eB2 oEq (eVar 0) (eC (.str "")))) (tO (tV (eB2 oGt (eBi oLen (aCons (eVar 0) aNil)) (eC g_MOST_FIGURES))) (tAn (tV (eB2 oEq (eB2 oIx (eVar 0) (eC (.int 0))) (eC (.str "0")))) (tV (eB2 oNe (eVar 0) (eC (.str "0")))))))
 (sRai 0)
 sNil)
  (sSeq (sFor (iS (eVar 0)) (set1 1)
 (sIf (tV (eB2 oSIn (eVar 1) (eC g_FIGURES)))
 (sRai 0)
 sNil))
  (sRet (eBi oIntS (aCons (eVar 0) aNil)))))
def f_figures_in : List D → Rs D := runF 1 s_figures_in
abbrev t_figures_in : Stmt := top 22
abbrev n_figures_in : List Str := ["word", "sign"]
theorem d_figures_in {G : Gb} (h : Fx G) (X : Cx) (W : WX) (g : Gs G n_figures_in (defScope t_figures_in) 0 W X) : PSs X (defBody t_figures_in) (TSv G ⟨true, W, []⟩ (F0 1 1) [] s_figures_in) :=
  (ds_cons (ds_if (F := [.s false, .n]) (F1 := [.s false, .n]) (Fo := [.s false, .n]) (dt_w (dw_or (dt_cmp (opr_eqG g.g.toGv) ops_eq (de_var g.g.toGv 0 (fl := .s false)) (de_str "")) (dw_or (dt_cmp op_gt (ops_CI fun i j => decide (j < i)) (de_len g.g.toGv h.b_len (da_cons (de_var g.g.toGv 0 (fl := .s false)) da_nil)) (de_glo g.g.toGv h.g_MOST_FIGURES)) (dw_or1 (dt_w (dw_and (dt_cmp (opr_eqG g.g.toGv) ops_eq (de_ix g.g.toGv (de_var g.g.toGv 0 (fl := .s false)) (de_int 0)) (de_str "0")) (dw_and1 (dt_cmp (opr_neG g.g.toGv) ops_ne (de_var g.g.toGv 0 (fl := .s false)) (de_str "0")))))))))
 (ds_one (ds_rai g.g h.x_NoText))
 ds_nil)
  (ds_cons (ds_for (F := [.s false, .n]) (F1 := [.s false, .n]) (F2 := [.s false, .s true]) (Fh := [.s false, .n]) g (di_str g.g (de_var g.g.toGv 0 (fl := .s false))) (tg_name g.g.toGv g.fn 1)
 (dss_wk (F := [.s false, .s true]) (F1 := [.s false, .s true]) (F2 := [.s false, .n]) (ds_one (ds_if (F := [.s false, .s true]) (F1 := [.s false, .s true]) (Fo := [.s false, .s true]) (dt_cmp op_notin_str ops_sin (de_var g.g.toGv 1 (fl := .s true)) (de_glo g.g.toGv h.g_FIGURES))
 (ds_one (ds_rai g.g h.x_NoText))
 ds_nil))))
  (ds_one (ds_ret (de_ints g.g.toGv h.b_int (da_cons (de_var g.g.toGv 0 (fl := .s false)) da_nil))))))
def s_read_ratio : EvS := (sSeq (sEx (eCall f_look_text (aCons (eVar 0) aNil)))
  (sSeq (sTu [1, 2, 3] (eM1 oPart (eVar 0) (eC (.str "/"))))
  (sSeq (sAs 4 (eC (.int 1)))
  (sSeq (sIf (tAn (tV (eM1 oStw (eVar 1) (eC (.str "-")))) (tV (eB2 oNe (eVar 1) (eC (.str "-0")))))
 (sSeq (sAs 4 (eU1 oNeg (eC (.int 1))))
  (sAs 1 (eSl (eVar 1) (oYes (eC (.int 1))) oNo)))
 sNil)
  (sSeq (sAs 5 (eTup (aCons (eB2 oMul (eVar 4) (eCall f_figures_in (aCons (eVar 1) aNil))) (aCons (eC (.int 1)) aNil))))
  (sSeq (sIf (tV (eB2 oNe (eVar 2) (eC (.str ""))))
 (sSeq (sAs 5 (eTup (aCons (eB2 oIx (eVar 5) (eC (.int 0))) (aCons (eCall f_figures_in (aCons (eVar 3) aNil)) aNil))))
  (sIf (tO (tV (eB2 oLt (eB2 oIx (eVar 5) (eC (.int 1))) (eC (.int 2)))) (tV (eB2 oNe (eCall f_divisor (aCons (eB2 oIx (eVar 5) (eC (.int 0))) (aCons (eB2 oIx (eVar 5) (eC (.int 1))) aNil))) (eC (.int 1)))))
 (sRai 0)
 sNil))
 sNil)
  (sRet (eVar 5))))))))
def f_read_ratio : List D → Rs D := runF 5 s_read_ratio
abbrev t_read_ratio : Stmt := top 23
abbrev n_read_ratio : List Str := ["text", "top", "parting", "bottom", "sign", "made"]
theorem d_read_ratio {G : Gb} (h : Fx G) (c_look_text : Cal G 1 "look_text" true 1 f_look_text) (c_figures_in : Cal G 1 "figures_in" true 1 f_figures_in) (c_divisor : Cal G 1 "divisor" true 2 f_divisor) (X : Cx) (W : WX) (g : Gs G n_read_ratio (defScope t_read_ratio) 1 W X) : PSs X (defBody t_read_ratio) (TSv G ⟨true, W, []⟩ (F0 1 5) [] s_read_ratio) :=
  (ds_cons (ds_ex (F1 := [.s false, .n, .n, .n, .n, .n]) (de_call g.g c_look_text (da_cons (de_var g.g.toGv 0 (fl := .s false)) da_nil)))
  (ds_cons (ds_tu (F1 := [.s false, .n, .n, .n, .n, .n]) (f := (.uq true)) g [1, 2, 3] (de_part (de_var g.g.toGv 0 (fl := .s false)) (de_str "/")))
  (ds_cons (ds_as (F1 := [.s false, .s true, .s true, .s true, .n, .n]) (f := (.uq true)) g.g.toGv g.fn 4 (de_int 1))
  (ds_cons (ds_if (F := [.s false, .s true, .s true, .s true, .o true, .n]) (F1 := [.s false, .s true, .s true, .s true, .o true, .n]) (Fo := [.s false, .s true, .s true, .s true, .o true, .n]) (dt_w (dw_and (dt_val (de_stw (de_var g.g.toGv 1 (fl := .s true)) (de_str "-"))) (dw_and1 (dt_cmp (opr_neG g.g.toGv) ops_ne (de_var g.g.toGv 1 (fl := .s true)) (de_str "-0")))))
 (dss_wk (F := [.s false, .s true, .s true, .s true, .o true, .n]) (F1 := [.s false, .o true, .s true, .s true, .o true, .n]) (F2 := [.s false, .s true, .s true, .s true, .o true, .n]) (ds_cons (ds_as (F1 := [.s false, .s true, .s true, .s true, .o true, .n]) (f := (.uq true)) g.g.toGv g.fn 4 (de_neg (de_int 1)))
  (ds_one (ds_as (F1 := [.s false, .s true, .s true, .s true, .o true, .n]) (f := (.uq true)) g.g.toGv g.fn 1 (de_sl g.g.toGv (de_var g.g.toGv 1 (fl := .s true)) (do_yes (de_int 1)) do_no)))))
 ds_nil)
  (ds_cons (ds_as (F1 := [.s false, .s true, .s true, .s true, .o true, .n]) (f := (.uq true)) g.g.toGv g.fn 5 (de_tup (da_cons (de_mul (de_var g.g.toGv 4 (fl := .o true)) (de_call g.g c_figures_in (da_cons (de_var g.g.toGv 1 (fl := .s true)) da_nil))) (da_cons (de_int 1) da_nil))))
  (ds_cons (ds_if (F := [.s false, .s true, .s true, .s true, .o true, .o true]) (F1 := [.s false, .s true, .s true, .s true, .o true, .o true]) (Fo := [.s false, .s true, .s true, .s true, .o true, .o true]) (dt_cmp (opr_neG g.g.toGv) ops_ne (de_var g.g.toGv 2 (fl := .s true)) (de_str ""))
 (ds_cons (ds_as (F1 := [.s false, .s true, .s true, .s true, .o true, .o true]) (f := (.uq true)) g.g.toGv g.fn 5 (de_tup (da_cons (de_ix g.g.toGv (de_var g.g.toGv 5 (fl := .o true)) (de_int 0)) (da_cons (de_call g.g c_figures_in (da_cons (de_var g.g.toGv 3 (fl := .s true)) da_nil)) da_nil))))
  (ds_one (ds_if (F := [.s false, .s true, .s true, .s true, .o true, .o true]) (F1 := [.s false, .s true, .s true, .s true, .o true, .o true]) (Fo := [.s false, .s true, .s true, .s true, .o true, .o true]) (dt_w (dw_or (dt_cmp op_lt (ops_CI fun i j => decide (i < j)) (de_ix g.g.toGv (de_var g.g.toGv 5 (fl := .o true)) (de_int 1)) (de_int 2)) (dw_or1 (dt_cmp (opr_neG g.g.toGv) ops_ne (de_call g.g c_divisor (da_cons (de_ix g.g.toGv (de_var g.g.toGv 5 (fl := .o true)) (de_int 0)) (da_cons (de_ix g.g.toGv (de_var g.g.toGv 5 (fl := .o true)) (de_int 1)) da_nil))) (de_int 1)))))
 (ds_one (ds_rai g.g h.x_NoText))
 ds_nil)))
 ds_nil)
  (ds_one (ds_ret (de_tk g.g.toGv 5 (fl := .o true))))))))))
def s_road_in : EvS := (sSeq (sAs 1 (eM1 oSplit (eVar 0) (eC (.str " "))))
  (sSeq (sIf (tV (eB2 oNe (eBi oLen (aCons (eVar 1) aNil)) (eC (.int 2))))
 (sRai 0)
 sNil)
  (sRet (eTup (aCons (eCall f_figures_in (aCons (eB2 oIx (eVar 1) (eC (.int 0))) aNil)) (aCons (eCall f_read_ratio (aCons (eB2 oIx (eVar 1) (eC (.int 1))) aNil)) aNil))))))
def f_road_in : List D → Rs D := runF 1 s_road_in
abbrev t_road_in : Stmt := top 24
abbrev n_road_in : List Str := ["row", "words"]
theorem d_road_in {G : Gb} (h : Fx G) (c_figures_in : Cal G 1 "figures_in" true 1 f_figures_in) (c_read_ratio : Cal G 2 "read_ratio" true 1 f_read_ratio) (X : Cx) (W : WX) (g : Gs G n_road_in (defScope t_road_in) 2 W X) : PSs X (defBody t_road_in) (TSv G ⟨true, W, []⟩ (F0 1 1) [] s_road_in) :=
  (ds_cons (ds_as (F1 := [.s false, .n]) (f := (.uq true)) g.g.toGv g.fn 1 (de_split (de_var g.g.toGv 0 (fl := .s false)) (de_str " ")))
  (ds_cons (ds_if (F := [.s false, .o true]) (F1 := [.s false, .o true]) (Fo := [.s false, .o true]) (dt_cmp (opr_neG g.g.toGv) ops_ne (de_len g.g.toGv h.b_len (da_cons (de_var g.g.toGv 1 (fl := .o true)) da_nil)) (de_int 2))
 (ds_one (ds_rai g.g h.x_NoText))
 ds_nil)
  (ds_one (ds_ret (de_tup (da_cons (de_call g.g c_figures_in (da_cons (de_ix g.g.toGv (de_var g.g.toGv 1 (fl := .o true)) (de_int 0)) da_nil)) (da_cons (de_call g.g c_read_ratio (da_cons (de_ix g.g.toGv (de_var g.g.toGv 1 (fl := .o true)) (de_int 1)) da_nil)) da_nil)))))))
def s_read_tree : EvS := (sSeq (sEx (eCall f_look_text (aCons (eVar 0) aNil)))
  (sSeq (sIf (tV (eB2 oEq (eVar 0) (eC (.str ""))))
 (sRet (eCall f_Tree___init__ (aCons (eLst aNil) aNil)))
 sNil)
  (sRet (eCall f_Tree___init__ (aCons (eLc [1] (iL (eM1 oSplit (eVar 0) (eC (.str "\n")))) (set1 1) (fun _ => .ok true) (eCall f_road_in (aCons (eVar 1) aNil))) aNil)))))
def f_read_tree : List D → Rs D := runF 1 s_read_tree
abbrev t_read_tree : Stmt := top 25
abbrev n_read_tree : List Str := ["text", "row"]
theorem d_read_tree {G : Gb} (h : Fx G) (c_look_text : Cal G 1 "look_text" true 1 f_look_text) (c_Tree___init__ : MakC G 4 0 1 f_Tree___init__) (c_road_in : Cal G 3 "road_in" true 1 f_road_in) (X : Cx) (W : WX) (g : Gs G n_read_tree (defScope t_read_tree) 5 W X) : PSs X (defBody t_read_tree) (TSv G ⟨false, W, []⟩ (F0 1 1) [] s_read_tree) :=
  (ds_cons (ds_ex (F1 := [.s false, .n]) (de_call g.g c_look_text (da_cons (de_var g.g.toGv 0 (fl := .s false)) da_nil)))
  (ds_cons (ds_if (F := [.s false, .n]) (F1 := [.s false, .n]) (Fo := [.s false, .n]) (dt_cmp (opr_eqG g.g.toGv) ops_eq (de_var g.g.toGv 0 (fl := .s false)) (de_str ""))
 (ds_one (ds_ret (de_make g.g h.k_Tree c_Tree___init__ (da_cons (de_lst da_nil) da_nil))))
 ds_nil)
  (ds_one (ds_ret (de_make g.g h.k_Tree c_Tree___init__ (da_cons (de_lc (F1 := [.s false, .n]) (F2 := [.s false, .s false]) (F3 := [.s false, .s false]) (F4 := [.s false, .s false]) (f := (.uq true)) g.g [("row", 1)] (di_list g.g (de_split (de_var g.g.toGv 0 (fl := .s false)) (de_str "\n"))) (blk_by (by decide +kernel)) (fun X' gb fb => (tg_nameB gb.toGv 1)) (fun X' gb => dts_nil) (fun X' gb => (de_call gb c_road_in (da_cons (de_var gb.toGv 1 (fl := .s false)) da_nil)))) da_nil))))))
def s__law_cell_at : EvS := (sSeq (sIf (tV (eB2 oLt (eVar 1) (eBi oLen (aCons (eVar 0) aNil))))
 (sRet (eFl (eB2 oIx (eVar 0) (eVar 1))))
 sNil)
  (sRet (eB2 oAdd (eFl (eB2 oMul (eC (.int 2)) (eVar 1))) (eC (.int 1)))))
def f__law_cell_at : List D → Rs D := runF 0 s__law_cell_at
abbrev t__law_cell_at : Stmt := top 27
abbrev n__law_cell_at : List Str := ["_law_script", "_law_k"]
theorem d__law_cell_at {G : Gb} (h : Fx G) (X : Cx) (W : WX) (g : Gs G n__law_cell_at (defScope t__law_cell_at) 0 W X) : PSs X (defBody t__law_cell_at) (TSv G ⟨true, W, []⟩ (F0 2 0) [] s__law_cell_at) :=
  (ds_cons (ds_if (F := [.s false, .s false]) (F1 := [.s false, .s false]) (Fo := [.s false, .s false]) (dt_cmp op_lt (ops_CI fun i j => decide (i < j)) (de_var g.g.toGv 1 (fl := .s false)) (de_len g.g.toGv h.b_len (da_cons (de_var g.g.toGv 0 (fl := .s false)) da_nil)))
 (ds_one (ds_ret (de_fl (de_ix g.g.toGv (de_var g.g.toGv 0 (fl := .s false)) (de_var g.g.toGv 1 (fl := .s false))))))
 ds_nil)
  (ds_one (ds_ret (de_add (de_fl (de_mul (de_int 2) (de_var g.g.toGv 1 (fl := .s false)))) (de_int 1)))))
def s__law_text : EvS := (sRet (eAn (eIsi .str (eVar 0)) (eB2 oEq (eVar 0) (eVar 1))))
def f__law_text : List D → Rs D := runF 0 s__law_text
abbrev t__law_text : Stmt := top 38
abbrev n__law_text : List Str := ["_law_found", "_law_due"]
theorem d__law_text {G : Gb} (h : Fx G) (X : Cx) (W : WX) (g : Gs G n__law_text (defScope t__law_text) 0 W X) : PSs X (defBody t__law_text) (TSv G ⟨true, W, []⟩ (F0 2 0) [] s__law_text) :=
  (ds_one (ds_ret (de_and (de_isi g.g.toGv .str h.b_isinstance h.b_str (de_var g.g.toGv 0 (fl := .s false)) tboot_str) (de_one (de_cmp (opr_eqG g.g.toGv) ops_eq (de_var g.g.toGv 0 (fl := .s false)) (de_var g.g.toGv 1 (fl := .s false)))))))
def s_show_ratio : EvS := (sSeq (sIf (tV (eB2 oEq (eB2 oIx (eVar 0) (eC (.int 1))) (eC (.int 1))))
 (sRet (eBi oStr (aCons (eB2 oIx (eVar 0) (eC (.int 0))) aNil)))
 sNil)
  (sRet (eB2 oAdd (eB2 oAdd (eBi oStr (aCons (eB2 oIx (eVar 0) (eC (.int 0))) aNil)) (eC (.str "/"))) (eBi oStr (aCons (eB2 oIx (eVar 0) (eC (.int 1))) aNil)))))
def f_show_ratio : List D → Rs D := runF 0 s_show_ratio
abbrev t_show_ratio : Stmt := top 19
abbrev n_show_ratio : List Str := ["one"]
theorem d_show_ratio {G : Gb} (h : Fx G) (X : Cx) (W : WX) (g : Gs G n_show_ratio (defScope t_show_ratio) 0 W X) : PSs X (defBody t_show_ratio) (TSv G ⟨true, W, []⟩ (F0 1 0) [] s_show_ratio) :=
  (ds_cons (ds_if (F := [.s false]) (F1 := [.s false]) (Fo := [.s false]) (dt_cmp (opr_eqG g.g.toGv) ops_eq (de_ix g.g.toGv (de_var g.g.toGv 0 (fl := .s false)) (de_int 1)) (de_int 1))
 (ds_one (ds_ret (de_str1 g.g h.b_str (da_cons (de_ix g.g.toGv (de_var g.g.toGv 0 (fl := .s false)) (de_int 0)) da_nil))))
 ds_nil)
  (ds_one (ds_ret (de_add (de_add (de_str1 g.g h.b_str (da_cons (de_ix g.g.toGv (de_var g.g.toGv 0 (fl := .s false)) (de_int 0)) da_nil)) (de_str "/")) (de_str1 g.g h.b_str (da_cons (de_ix g.g.toGv (de_var g.g.toGv 0 (fl := .s false)) (de_int 1)) da_nil))))))
def s_Tree_roads : EvS := (sRet (eFi (eBi oList (aCons (eFld 0 0 (eVar 0)) aNil))))
def f_Tree_roads : List D → Rs D := runF 0 s_Tree_roads
abbrev t_Tree_roads : Stmt := (C8.clsBody (top 15)).getD 1 (.Pass ⟨0, 0, 0, 0⟩)
abbrev n_Tree_roads : List Str := ["self"]
theorem d_Tree_roads {G : Gb} (h : Fx G) (X : Cx) (W : WX) (g : Gs G n_Tree_roads (defScope t_Tree_roads) 0 W X) : PSs X (defBody t_Tree_roads) (TSv G ⟨true, W, []⟩ (F0 1 0) [] s_Tree_roads) :=
  (ds_one (ds_ret (de_fi (de_list g.g h.b_list (da_cons (de_fld (j := 0) g.g.toGv h.k_Tree (de_var g.g.toGv 0 (fl := .s false))) da_nil)))))
def s_show_tree : EvS := (sRet (eM1 oJoin (eC (.str "\n")) (eLc [1, 2] (iL (eMeth 0 f_Tree_roads (eVar 0) aNil)) (setT [1, 2]) (fun _ => .ok true) (eB2 oAdd (eB2 oAdd (eBi oStr (aCons (eVar 1) aNil)) (eC (.str " "))) (eCall f_show_ratio (aCons (eVar 2) aNil))))))
def f_show_tree : List D → Rs D := runF 2 s_show_tree
abbrev t_show_tree : Stmt := top 20
abbrev n_show_tree : List Str := ["tree", "to", "price"]
theorem d_show_tree {G : Gb} (h : Fx G) (c_show_ratio : Cal G 1 "show_ratio" true 1 f_show_ratio) (c_Tree_roads : MetC G 1 0 "roads" true 0 f_Tree_roads) (X : Cx) (W : WX) (g : Gs G n_show_tree (defScope t_show_tree) 1 W X) : PSs X (defBody t_show_tree) (TSv G ⟨true, W, []⟩ (F0 1 2) [] s_show_tree) :=
  (ds_one (ds_ret (de_join g.g.toGv (de_str "\n") (de_lc (F1 := [.s false, .n, .n]) (F2 := [.s false, .s false, .s false]) (F3 := [.s false, .s false, .s false]) (F4 := [.s false, .s false, .s false]) (f := (.uq true)) g.g [("to", 1), ("price", 2)] (di_list g.g (de_meth0 g.g h.k_Tree c_Tree_roads (de_var g.g.toGv 0 (fl := .s false)))) (blk_by (by decide +kernel)) (fun X' gb fb => (tg_tupL gb [1, 2])) (fun X' gb => dts_nil) (fun X' gb => (de_add (de_add (de_str1 gb h.b_str (da_cons (de_var gb.toGv 1 (fl := .s false)) da_nil)) (de_str " ")) (de_call gb c_show_ratio (da_cons (de_var gb.toGv 2 (fl := .s false)) da_nil))))))))
def s__law_whole : EvS := (sRet (eAn (eIsi .int (eVar 0)) (eNt (eIsi .bool (eVar 0)))))
def f__law_whole : List D → Rs D := runF 0 s__law_whole
abbrev t__law_whole : Stmt := top 28
abbrev n__law_whole : List Str := ["_law_found"]
theorem d__law_whole {G : Gb} (h : Fx G) (X : Cx) (W : WX) (g : Gs G n__law_whole (defScope t__law_whole) 0 W X) : PSs X (defBody t__law_whole) (TSv G ⟨true, W, []⟩ (F0 1 0) [] s__law_whole) :=
  (ds_one (ds_ret (de_and (de_isi g.g.toGv .int h.b_isinstance h.b_int (de_var g.g.toGv 0 (fl := .s false)) tboot_int) (de_one (de_not (de_isi g.g.toGv .bool h.b_isinstance h.b_bool (de_var g.g.toGv 0 (fl := .s false)) tboot_bool))))))
def s__law_same : EvS := (sSeq (sIf (tO (tNt (tV (eIsi .tuple (eVar 0)))) (tV (eB2 oNe (eBi oLen (aCons (eVar 0) aNil)) (eC (.int 2)))))
 (sRet (eC (.bl false)))
 sNil)
  (sRet (eAn (eCall f__law_whole (aCons (eB2 oIx (eVar 0) (eC (.int 0))) aNil)) (eAn (eCall f__law_whole (aCons (eB2 oIx (eVar 0) (eC (.int 1))) aNil)) (eB2 oEq (eVar 0) (eVar 1))))))
def f__law_same : List D → Rs D := runF 0 s__law_same
abbrev t__law_same : Stmt := top 31
abbrev n__law_same : List Str := ["_law_found", "_law_due"]
theorem d__law_same {G : Gb} (h : Fx G) (c__law_whole : Cal G 1 "_law_whole" true 1 f__law_whole) (X : Cx) (W : WX) (g : Gs G n__law_same (defScope t__law_same) 1 W X) : PSs X (defBody t__law_same) (TSv G ⟨true, W, []⟩ (F0 2 0) [] s__law_same) :=
  (ds_cons (ds_if (F := [.s false, .s false]) (F1 := [.s false, .s false]) (Fo := [.s false, .s false]) (dt_w (dw_or (dt_not (dt_val (de_isi g.g.toGv .tuple h.b_isinstance h.b_tuple (de_var g.g.toGv 0 (fl := .s false)) tboot_tuple))) (dw_or1 (dt_cmp (opr_neG g.g.toGv) ops_ne (de_len g.g.toGv h.b_len (da_cons (de_var g.g.toGv 0 (fl := .s false)) da_nil)) (de_int 2)))))
 (ds_one (ds_ret (de_bl false)))
 ds_nil)
  (ds_one (ds_ret (de_and (de_call g.g c__law_whole (da_cons (de_ix g.g.toGv (de_var g.g.toGv 0 (fl := .s false)) (de_int 0)) da_nil)) (de_and (de_call g.g c__law_whole (da_cons (de_ix g.g.toGv (de_var g.g.toGv 0 (fl := .s false)) (de_int 1)) da_nil)) (de_one (de_cmp (opr_eqG g.g.toGv) ops_eq (de_var g.g.toGv 0 (fl := .s false)) (de_var g.g.toGv 1 (fl := .s false)))))))))
def s_law : EvS := (sSeq (sFor (iL (eCall f__law_ratios_by (aCons (eCall f__law_cell_at (aCons (eVar 0) (aCons (eC (.int 0)) aNil))) aNil))) (set1 1)
 (sIf (tO (tNt (tV (eCall f__law_text (aCons (eCall f_show_ratio (aCons (eVar 1) aNil)) (aCons (eCall f__law_word (aCons (eVar 1) aNil)) aNil))))) (tNt (tV (eCall f__law_same (aCons (eCall f_read_ratio (aCons (eCall f__law_word (aCons (eVar 1) aNil)) aNil)) (aCons (eVar 1) aNil))))))
 (sRet (eC (.bl false)))
 sNil))
  (sSeq (sAs 2 (eCall f__law_roads_by (aCons (eCall f__law_cell_at (aCons (eVar 0) (aCons (eC (.int 1)) aNil))) (aCons (eB2 oIx (eLst (aCons (eC (.int 7)) (aCons (eC (.int 20)) aNil))) (eBi oInt (aCons (eB2 oEq (eB2 oMod (eCall f__law_cell_at (aCons (eVar 0) (aCons (eC (.int 2)) aNil))) (eC (.int 4))) (eC (.int 1))) aNil))) aNil))))
  (sSeq (sAs 3 (eCall f__law_tree_text (aCons (eVar 2) aNil)))
  (sSeq (sIf (tNt (tV (eCall f__law_text (aCons (eCall f_show_tree (aCons (eCall f_Tree___init__ (aCons (eBi oList (aCons (eVar 2) aNil)) aNil)) aNil)) (aCons (eVar 3) aNil)))))
 (sRet (eC (.bl false)))
 sNil)
  (sSeq (sAs 4 (eCall f_read_tree (aCons (eVar 3) aNil)))
  (sRet (eAn (eIsO 0 (eVar 4)) (eAn (eB2 oEq (eMeth 0 f_Tree_roads (eVar 4) aNil) (eVar 2)) (eCall f__law_text (aCons (eCall f_show_tree (aCons (eVar 4) aNil)) (aCons (eVar 3) aNil)))))))))))
def f_law : List D → Rs D := runF 4 s_law
abbrev t_law : Stmt := top 39
abbrev n_law : List Str := ["_law_script", "_law_one", "_law_roads", "_law_text_here", "_law_found"]
theorem d_law {G : Gb} (h : Fx G) (c__law_ratios_by : Cal G 3 "_law_ratios_by" true 1 f__law_ratios_by) (c__law_roads_by : Cal G 4 "_law_roads_by" true 2 f__law_roads_by) (c__law_tree_text : Cal G 2 "_law_tree_text" true 1 f__law_tree_text) (c_read_tree : Cal G 6 "read_tree" false 1 f_read_tree) (c__law_cell_at : Cal G 1 "_law_cell_at" true 2 f__law_cell_at) (c__law_text : Cal G 1 "_law_text" true 2 f__law_text) (c_show_tree : Cal G 2 "show_tree" true 1 f_show_tree) (c_Tree_roads : MetC G 1 0 "roads" true 0 f_Tree_roads) (c__law_same : Cal G 2 "_law_same" true 2 f__law_same) (c_Tree___init__ : MakC G 4 0 1 f_Tree___init__) (c_show_ratio : Cal G 1 "show_ratio" true 1 f_show_ratio) (c__law_word : Cal G 1 "_law_word" true 1 f__law_word) (c_read_ratio : Cal G 2 "read_ratio" true 1 f_read_ratio) (X : Cx) (W : WX) (g : Gs G n_law (defScope t_law) 6 W X) : PSs X (defBody t_law) (TSv G ⟨true, W, []⟩ (F0 1 4) [] s_law) :=
  (ds_cons (ds_for (F := [.s false, .n, .n, .n, .n]) (F1 := [.s false, .n, .n, .n, .n]) (F2 := [.s false, .s true, .n, .n, .n]) (Fh := [.s false, .n, .n, .n, .n]) g (di_list g.g (de_call g.g c__law_ratios_by (da_cons (de_call g.g c__law_cell_at (da_cons (de_var g.g.toGv 0 (fl := .s false)) (da_cons (de_int 0) da_nil))) da_nil))) (tg_name g.g.toGv g.fn 1)
 (dss_wk (F := [.s false, .s true, .n, .n, .n]) (F1 := [.s false, .s true, .n, .n, .n]) (F2 := [.s false, .n, .n, .n, .n]) (ds_one (ds_if (F := [.s false, .s true, .n, .n, .n]) (F1 := [.s false, .s true, .n, .n, .n]) (Fo := [.s false, .s true, .n, .n, .n]) (dt_w (dw_or (dt_not (dt_val (de_call g.g c__law_text (da_cons (de_call g.g c_show_ratio (da_cons (de_var g.g.toGv 1 (fl := .s true)) da_nil)) (da_cons (de_call g.g c__law_word (da_cons (de_var g.g.toGv 1 (fl := .s true)) da_nil)) da_nil))))) (dw_or1 (dt_not (dt_val (de_call g.g c__law_same (da_cons (de_call g.g c_read_ratio (da_cons (de_call g.g c__law_word (da_cons (de_var g.g.toGv 1 (fl := .s true)) da_nil)) da_nil)) (da_cons (de_var g.g.toGv 1 (fl := .s true)) da_nil))))))))
 (ds_one (ds_ret (de_bl false)))
 ds_nil))))
  (ds_cons (ds_as (F1 := [.s false, .n, .n, .n, .n]) (f := (.uq true)) g.g.toGv g.fn 2 (de_call g.g c__law_roads_by (da_cons (de_call g.g c__law_cell_at (da_cons (de_var g.g.toGv 0 (fl := .s false)) (da_cons (de_int 1) da_nil))) (da_cons (de_ix g.g.toGv (de_lst (da_cons (de_int 7) (da_cons (de_int 20) da_nil))) (de_int1 g.g.toGv h.b_int (da_cons (de_cmp (opr_eqG g.g.toGv) ops_eq (de_mod (de_call g.g c__law_cell_at (da_cons (de_var g.g.toGv 0 (fl := .s false)) (da_cons (de_int 2) da_nil))) (de_int 4)) (de_int 1)) da_nil))) da_nil))))
  (ds_cons (ds_as (F1 := [.s false, .n, .o true, .n, .n]) (f := (.uq true)) g.g.toGv g.fn 3 (de_call g.g c__law_tree_text (da_cons (de_var g.g.toGv 2 (fl := .o true)) da_nil)))
  (ds_cons (ds_if (F := [.s false, .n, .o true, .o true, .n]) (F1 := [.s false, .n, .o true, .o true, .n]) (Fo := [.s false, .n, .o true, .o true, .n]) (dt_not (dt_val (de_call g.g c__law_text (da_cons (de_call g.g c_show_tree (da_cons (de_make g.g h.k_Tree c_Tree___init__ (da_cons (de_list g.g h.b_list (da_cons (de_var g.g.toGv 2 (fl := .o true)) da_nil)) da_nil)) da_nil)) (da_cons (de_var g.g.toGv 3 (fl := .o true)) da_nil)))))
 (ds_one (ds_ret (de_bl false)))
 ds_nil)
  (ds_cons (ds_as (F1 := [.s false, .n, .o true, .s true, .n]) (f := (.sh false)) g.g.toGv g.fn 4 (de_call g.g c_read_tree (da_cons (de_mv g.g.toGv 3 (fl := .o true)) da_nil)))
  (ds_one (ds_ret (de_and (de_isO g.g.toGv h.k_Tree h.kt_Tree h.b_isinstance (de_var g.g.toGv 4 (fl := .s false))) (de_and (de_cmp (opr_eqG g.g.toGv) ops_eq (de_meth0 g.g h.k_Tree c_Tree_roads (de_var g.g.toGv 4 (fl := .s false))) (de_var g.g.toGv 2 (fl := .o true))) (de_one (de_call g.g c__law_text (da_cons (de_call g.g c_show_tree (da_cons (de_var g.g.toGv 4 (fl := .s false)) da_nil)) (da_cons (de_var g.g.toGv 3 (fl := .s true)) da_nil)))))))))))))
end Lk81
noncomputable section
namespace Lk81
open PySem PySem.Spec PyProof.Rows L2 Pi Co
theorem x_cell : f__law_cell_at = f_cell := rfl
theorem x_roads : f__law_roads_by = f_broads := rfl
theorem x_low : f__law_low = f_low := rfl
theorem x_num : f__law_numbers = f_bnum := rfl
theorem x_whole : f__law_whole = f_whole := rfl
theorem x_show : f_show_ratio = f_show := rfl
theorem x_word : f__law_word = f_show := rfl
theorem x_read : f_read_ratio = f_read 0 := rfl
theorem x_ttext : f__law_tree_text = f_ttext := rfl
theorem x_showt : f_show_tree = f_showt 0 := rfl
theorem x_readt : f_read_tree = f_readt 0 1 0 := rfl
theorem x_init : f_Tree___init__ = f_tinit 1 0 := rfl
/-- a fraction brought to lowest terms -/
theorem low30 {t b : Int} (hb : 0 < b) (h1 : s30 t.natAbs) (h2 : s30 b.natAbs) : F30 (nu t b, de t b) ∧ f__law_low [.int t, .int b] = .ok (pD' (nu t b, de t b)) := by
  have hb0 : b ≠ 0 := by omega
  refine ⟨⟨Nat.lt_of_le_of_lt (nu_le hb0) h1, Nat.lt_of_le_of_lt (de_le hb0) h2, de_pos hb0, cop hb0⟩, ?_⟩
  have e := low_eq (t := t) hb (Nat.lt_of_lt_of_le h2 (Nat.le_trans (by decide : _ ≤ 2 ^ 200) (Nat.pow_le_pow_right (by decide) (by decide))))
  exact e
abbrev bRt : EvS := (sSeq (sAs 4 (eFl (eB2 oIx (eVar 1) (eB2 oAdd (eC (.int 1)) (eB2 oMul (eC (.int 2)) (eVar 3))))))
  (sSeq (sAs 5 (eFl (eB2 oIx (eVar 1) (eB2 oAdd (eC (.int 2)) (eB2 oMul (eC (.int 2)) (eVar 3))))))
  (sIf (tV (eB2 oEq (eB2 oMod (eVar 4) (eC (.int 4))) (eC (.int 1))))
    (sSeq (sAs 6 (eB2 oSub (eB2 oMod (eB2 oMul (eB2 oMul (eB2 oAdd (eBi oAbs (aCons (eVar 0) aNil)) (eVar 4)) (eB2 oPow (eC (.int 7)) (eC (.int 40)))) (eB2 oAdd (eVar 5) (eC (.int 1)))) (eB2 oSub (eB2 oMul (eC (.int 2)) (eB2 oPow (eC (.int 10)) (eC (.int 30)))) (eC (.int 1)))) (eB2 oSub (eB2 oPow (eC (.int 10)) (eC (.int 30))) (eC (.int 1)))))
  (sApp 2 (eCall f__law_low (aCons (eVar 6) (aCons (eB2 oAdd (eC (.int 1)) (eB2 oMod (eB2 oMul (eB2 oAdd (eBi oAbs (aCons (eVar 0) aNil)) (eVar 5)) (eB2 oPow (eC (.int 3)) (eC (.int 60)))) (eB2 oSub (eB2 oPow (eC (.int 10)) (eC (.int 30))) (eC (.int 1))))) aNil)))))
    (sApp 2 (eCall f__law_low (aCons (eB2 oSub (eB2 oMod (eB2 oDiv (eVar 4) (eC (.int 4))) (eC (.int 41))) (eC (.int 20))) (aCons (eB2 oAdd (eC (.int 1)) (eB2 oMod (eVar 5) (eC (.int 9)))) aNil)))))))
theorem sApp_of' {i : Nat} {ev : EvE} {en : En} {l : List D} {d : D} (h1 : getL i en = .ok l) (h2 : ev en = .ok d) (h3 : l.length < 1000000) : sApp i ev en = .ok (.nx (en.set i (some (.lst (l ++ [d]))))) := by
  have e : l.length < sizeLine := by rw [sizeLine_eq]; omega
  rw [sApp_ap, h1, bnd_ok, h2, bnd_ok, if_pos e]
theorem bRt_eq {c : Int} (hc : Sz c) {X : List Int} (hX : Bel 99989 X) {k : Nat} (hk : 2 * k + 2 < X.length) {L : List (Int × Int)} (hL : L.length < 900) {o4 o5 o6 : Option D} : ∃ (p : Int × Int) (o4' o5' o6' : Option D), F30 p ∧
    bRt [some (.int c), some (.lst (X.map .int)), some (.lst (L.map pD')), some (.int (k : Nat)), o4, o5, o6] = .ok (.nx [some (.int c), some (.lst (X.map .int)), some (.lst ((L ++ [p]).map pD')), some (.int (k : Nat)), o4', o5', o6']) := by
  have i1 : (1 : Int) + 2 * (k : Nat) = ((2 * k + 1 : Nat) : Int) := by omega
  have i2 : (2 : Int) + 2 * (k : Nat) = ((2 * k + 2 : Nat) : Int) := by omega
  have x1 := xs_at (X := X) (i := 2 * k + 1) (by omega)
  have x2 := xs_at (X := X) (i := 2 * k + 2) hk
  have b1 := hX X[2 * k + 1] (List.getElem_mem _)
  have b2 := hX X[2 * k + 2] (List.getElem_mem _)
  generalize X[2 * k + 1] = v at x1 b1
  generalize X[2 * k + 2] = w at x2 b2
  have km : mulOk 2 ((k : Nat) : Int) = true := mulOk_l (by decide)
  have apL : ∀ p, L.map pD' ++ [pD' p] = (L ++ [p]).map pD' := fun p => by simp
  have ab : oAbs [.int c] = some (.int (c.natAbs : Int)) := oAbs_int c
  obtain ⟨m, hm, hB⟩ := hc.b
  have st : ∀ o', (sIf (tV (eB2 oEq (eB2 oMod (eVar 4) (eC (.int 4))) (eC (.int 1))))
    (sSeq (sAs 6 (eB2 oSub (eB2 oMod (eB2 oMul (eB2 oMul (eB2 oAdd (eBi oAbs (aCons (eVar 0) aNil)) (eVar 4)) (eB2 oPow (eC (.int 7)) (eC (.int 40)))) (eB2 oAdd (eVar 5) (eC (.int 1)))) (eB2 oSub (eB2 oMul (eC (.int 2)) (eB2 oPow (eC (.int 10)) (eC (.int 30)))) (eC (.int 1)))) (eB2 oSub (eB2 oPow (eC (.int 10)) (eC (.int 30))) (eC (.int 1)))))
  (sApp 2 (eCall f__law_low (aCons (eVar 6) (aCons (eB2 oAdd (eC (.int 1)) (eB2 oMod (eB2 oMul (eB2 oAdd (eBi oAbs (aCons (eVar 0) aNil)) (eVar 5)) (eB2 oPow (eC (.int 3)) (eC (.int 60)))) (eB2 oSub (eB2 oPow (eC (.int 10)) (eC (.int 30))) (eC (.int 1))))) aNil)))))
    (sApp 2 (eCall f__law_low (aCons (eB2 oSub (eB2 oMod (eB2 oDiv (eVar 4) (eC (.int 4))) (eC (.int 41))) (eC (.int 20))) (aCons (eB2 oAdd (eC (.int 1)) (eB2 oMod (eVar 5) (eC (.int 9)))) aNil))))) [some (.int c), some (.lst (X.map .int)), some (.lst (L.map pD')), some (.int (k : Nat)), some (.int v), some (.int w), o6] = o' →
    bRt [some (.int c), some (.lst (X.map .int)), some (.lst (L.map pD')), some (.int (k : Nat)), o4, o5, o6] = o' := fun o' e => by
    unfold bRt
    rw [seq_nx (en' := [some (.int c), some (.lst (X.map .int)), some (.lst (L.map pD')), some (.int (k : Nat)), some (.int v), o5, o6]) (sAs_of (eFl_of (eB2_of rfl (by rw [eB2_of rfl (eB2_of rfl rfl (oMul_int km)) (oAdd_int _ _), i1]) x1) (flat_int _)))]
    rw [seq_nx (en' := [some (.int c), some (.lst (X.map .int)), some (.lst (L.map pD')), some (.int (k : Nat)), some (.int v), some (.int w), o6]) (sAs_of (eFl_of (eB2_of rfl (by rw [eB2_of rfl (eB2_of rfl rfl (oMul_int km)) (oAdd_int _ _), i2]) x2) (flat_int _)))]
    exact e
  have ll : (L.map pD').length < 1000000 := by rw [List.length_map]; omega
  by_cases hv : v.fmod 4 = 1
  · have p7 : oPow (.int 7) (.int 40) = some (.int 6366805760909027985741435139224001) := rfl
    have p3 : oPow (.int 3) (.int 60) = some (.int 42391158275216203514294433201) := rfl
    have p30 : oPow (.int 10) (.int 30) = some (.int 1000000000000000000000000000000) := rfl
    have bc : B (m + 20) ((c.natAbs : Nat) : Int) := B.mono (m := m) (by unfold B at hB ⊢; simpa using hB) (by omega)
    have k1 : mulOk (((c.natAbs : Nat) : Int) + v) 6366805760909027985741435139224001 = true := (bc.add (B.mono (m := 20) (by unfold B; omega) (by omega))).ok (n := 113) (by unfold B; decide) (by omega) (by decide)
    have k2 : ∀ x, mulOk x (w + 1) = true := fun x => mulOk_r (by omega)
    have k3 : mulOk (((c.natAbs : Nat) : Int) + w) 42391158275216203514294433201 = true := (bc.add (B.mono (m := 20) (by unfold B; omega) (by omega))).ok (n := 96) (by unfold B; decide) (by omega) (by decide)
    have k4 : mulOk 2 1000000000000000000000000000000 = true := mulOk_l (by decide)
    have d1 := Int.fmod_nonneg_of_pos ((((c.natAbs : Nat) : Int) + v) * 6366805760909027985741435139224001 * (w + 1)) (b := 1999999999999999999999999999999) (by decide)
    have d2 := Int.fmod_lt_of_pos ((((c.natAbs : Nat) : Int) + v) * 6366805760909027985741435139224001 * (w + 1)) (b := 1999999999999999999999999999999) (by decide)
    have d3 := Int.fmod_nonneg_of_pos ((((c.natAbs : Nat) : Int) + w) * 42391158275216203514294433201) (b := 999999999999999999999999999999) (by decide)
    have d4 := Int.fmod_lt_of_pos ((((c.natAbs : Nat) : Int) + w) * 42391158275216203514294433201) (b := 999999999999999999999999999999) (by decide)
    generalize ht : ((((c.natAbs : Nat) : Int) + v) * 6366805760909027985741435139224001 * (w + 1)).fmod 1999999999999999999999999999999 = t at d1 d2
    generalize hz : ((((c.natAbs : Nat) : Int) + w) * 42391158275216203514294433201).fmod 999999999999999999999999999999 = z at d3 d4
    obtain ⟨f1, f2⟩ := low30 (t := t - 999999999999999999999999999999) (b := 1 + z) (by omega) (by unfold s30; omega) (by unfold s30; omega)
    refine ⟨_, some (.int v), some (.int w), some (.int (t - 999999999999999999999999999999)), f1, st _ ?_⟩
    rw [sIf_ap, tV_of (b := true) (eB2_of (eB2_of rfl rfl (oMod_int (by decide))) rfl (by rw [oEq_int, decide_eq_true hv])), bnd_ok, if_pos rfl]
    rw [seq_nx (en' := [some (.int c), some (.lst (X.map .int)), some (.lst (L.map pD')), some (.int (k : Nat)), some (.int v), some (.int w), some (.int (t - 999999999999999999999999999999))]) (by
      rw [sAs_of (eB2_of (eB2_of (eB2_of (eB2_of (eB2_of (eBi1_of rfl ab) rfl (oAdd_int _ _)) (eB2_of rfl rfl p7) (oMul_int k1)) (eB2_of rfl rfl (oAdd_int _ _)) (oMul_int (k2 _))) (y := .int 1999999999999999999999999999999) (eB2_of (eB2_of rfl (eB2_of rfl rfl p30) (oMul_int k4)) rfl rfl) (oMod_int (by decide))) (y := .int 999999999999999999999999999999) (eB2_of (eB2_of rfl rfl p30) rfl rfl) (oSub_int _ _)), ht]
      rfl)]
    rw [sApp_of' (l := L.map pD') rfl (eCall2_of rfl (by
      rw [eB2_of rfl (eB2_of (eB2_of (eB2_of (eBi1_of rfl ab) rfl (oAdd_int _ _)) (eB2_of rfl rfl p3) (oMul_int k3)) (y := .int 999999999999999999999999999999) (eB2_of (eB2_of rfl rfl p30) rfl rfl) (oMod_int (by decide))) (oAdd_int _ _), hz]) f2) ll, apL]
    rfl
  · have dv : oDiv (.int v) (.int 4) = some (.int (v.fdiv 4)) := oDiv_int (divOk_of (m := 5) (by decide) (by decide) (by decide) (by decide))
    have d1 := Int.fmod_nonneg_of_pos (v.fdiv 4) (b := 41) (by decide)
    have d2 := Int.fmod_lt_of_pos (v.fdiv 4) (b := 41) (by decide)
    have d3 := Int.fmod_nonneg_of_pos w (b := 9) (by decide)
    have d4 := Int.fmod_lt_of_pos w (b := 9) (by decide)
    generalize ht : (v.fdiv 4).fmod 41 = t at d1 d2
    generalize hz : w.fmod 9 = z at d3 d4
    obtain ⟨f1, f2⟩ := low30 (t := t - 20) (b := 1 + z) (by omega) (by unfold s30; omega) (by unfold s30; omega)
    refine ⟨_, some (.int v), some (.int w), o6, f1, st _ ?_⟩
    rw [sIf_ap, tV_of (b := false) (eB2_of (eB2_of rfl rfl (oMod_int (by decide))) rfl (by rw [oEq_int, decide_eq_false hv])), bnd_ok, if_neg (by simp)]
    rw [sApp_of' (l := L.map pD') rfl (eCall2_of (by rw [eB2_of (eB2_of (eB2_of rfl rfl dv) rfl (oMod_int (by decide))) rfl (oSub_int _ _), ht]) (by rw [eB2_of rfl (eB2_of rfl rfl (oMod_int (by decide))) (oAdd_int _ _), hz]) f2) ll, apL]
    rfl
theorem ratios_eq {c : Int} (hc : Sz c) : ∃ L : List (Int × Int), (∀ p, p ∈ L → F30 p) ∧ f__law_ratios_by [.int c] = .ok (.lst (L.map pD')) := by
  obtain ⟨X, hX, hB, eX⟩ := bnum_eq c (m := 26) (by decide)
  have x0 := xs_at (X := X) (i := 0) (by omega)
  generalize X[0] = y0 at x0
  have e0 : oIx (.lst (X.map .int)) (.int 0) = some (.int y0) := x0
  have a0 := Int.fmod_nonneg_of_pos y0 (b := 13) (by decide)
  have a1 := Int.fmod_lt_of_pos y0 (b := 13) (by decide)
  obtain ⟨n, en⟩ : ∃ n : Nat, y0.fmod 13 = n := ⟨_, (Int.toNat_of_nonneg a0).symm⟩
  rw [en] at a1
  obtain ⟨en', q1, L, o3, o4, o5, o6, he, hl, hF⟩ := evFor_ix (set := set1 3) (body := bRt) (P := fun i en => ∃ (L : List (Int × Int)) (o3 o4 o5 o6 : Option D), en = [some (.int c), some (.lst (X.map .int)), some (.lst (L.map pD')), o3, o4, o5, o6] ∧ L.length = i ∧ ∀ p, p ∈ L → F30 p) (tn (List.range n)) 0
    [some (.int c), some (.lst (X.map .int)), some (.lst []), none, none, none, none] ⟨[], none, none, none, none, rfl, rfl, fun p hp => by cases hp⟩ (fun j d en hj ⟨L, o3, o4, o5, o6, he, hl, hF⟩ => by
      subst he
      obtain ⟨k, hk, rfl⟩ := tn_ix hj
      have hkn : k < n := List.mem_range.mp (List.mem_of_getElem? hk)
      have hjn : j < n := by have := (List.getElem?_eq_some_iff.mp hk).1; simpa using this
      obtain ⟨p, o4', o5', o6', hp, e⟩ := bRt_eq hc hB (k := k) (by omega) (L := L) (by omega) (o4 := o4) (o5 := o5) (o6 := o6)
      refine ⟨_, _, rfl, e, L ++ [p], _, _, _, _, rfl, by simp; omega, fun q hq => ?_⟩
      rcases List.mem_append.mp hq with h | h
      · exact hF q h
      · rw [List.mem_singleton.mp h]; exact hp)
  subst he
  refine ⟨L, hF, ?_⟩
  have rg := oRng_nat (m := n) (by omega)
  rw [← tn_range] at rg
  unfold f__law_ratios_by
  rw [runF_ap]
  show endR (s__law_ratios_by [some (.int c), none, none, none, none, none, none]) = _
  unfold s__law_ratios_by
  refine step_nx (en' := [some (.int c), some (.lst (X.map .int)), none, none, none, none, none]) (sAs_of (eCall2_of rfl rfl eX)) ?_
  refine step_nx (en' := [some (.int c), some (.lst (X.map .int)), some (.lst []), none, none, none, none]) rfl ?_
  refine step_nx (sFor_of (iRn1_of (i := .int (n : Nat)) (by rw [eB2_of (eB2_of rfl rfl e0) rfl (oMod_int (by decide)), en]) rg) q1) ?_
  rfl
theorem same_eq (p : Int × Int) : f__law_same [pD' p, pD' p] = .ok (.bl true) := by
  have e : oEq (pD' p) (pD' p) = some (.bl true) := oEq_self rfl
  unfold pD' at e ⊢
  simp [f__law_same, s__law_same, isiB, x_whole, whole_int, e]
theorem text_eq (l : List Nat) : f__law_text [.str (St l), .str (St l)] = .ok (.bl true) := by
  have e : oEq (.str (St l)) (.str (St l)) = some (.bl true) := oEq_self rfl
  generalize St l = x at *
  simp [f__law_text, s__law_text, isiB, e]
theorem law_plain (ns : List Int) (hn : ns.length ≤ 63) (hb : bitsLe ns) : f_law [.scr ns] = .ok (.bl true) := by
  have c0 : f__law_cell_at [.scr ns, .int 0] = .ok (.int (cellAt ns 0)) := cell_eq ns 0
  have c1 : f__law_cell_at [.scr ns, .int 1] = .ok (.int (cellAt ns 1)) := cell_eq ns 1
  have c2 : f__law_cell_at [.scr ns, .int 2] = .ok (.int (cellAt ns 2)) := cell_eq ns 2
  obtain ⟨L, hL, eL⟩ := ratios_eq (cell_sz hb 0 (by decide))
  obtain ⟨most, hm7, hm20, em⟩ : ∃ most : Nat, 0 < most ∧ most ≤ 20 ∧ oIx (.lst [.int 7, .int 20]) (.int (if decide ((cellAt ns 2).fmod 4 = 1) = true then 1 else 0)) = some (.int (most : Nat)) := by
    cases decide ((cellAt ns 2).fmod 4 = 1) with
    | true => exact ⟨20, by decide, by decide, rfl⟩
    | false => exact ⟨7, by decide, by decide, rfl⟩
  obtain ⟨T, Rs, hR, hR20, _, hsm, eR⟩ := broads_eq (cell_sz hb 1 (by decide)) hm7 hm20
  have t30 : T30 Rs := ⟨hR.tre, fun r hr => by
    have pr := hR.tre.prc r hr
    have s := hsm r hr
    exact ⟨Nat.lt_trans s.1 (by decide), Nat.lt_trans s.2 (by decide), pr.q1, pr.cop⟩⟩
  have ini : f_Tree___init__ [.lst (Rs.map rd)] = .ok (tree 0 Rs) := tinit_eq (e := 1) (c := 0) hR.tre
  have tt : f__law_tree_text [.lst (Rs.map rd)] = .ok (.str (St (treeT Rs))) := ttext_eq t30
  have sh : f_show_tree [tree 0 Rs] = .ok (.str (St (treeT Rs))) := showt_eq (c := 0) t30
  have rt : f_read_tree [.str (St (treeT Rs))] = .ok (tree 0 Rs) := readt_eq (e := 0) (e2 := 1) (c := 0) t30
  have rs : f_Tree_roads [tree 0 Rs] = .ok (.lst (Rs.map rd)) := troad_eq Rs
  have last := oEq_rds Rs
  obtain ⟨o1, q1, _⟩ := evFor_fold (α := Int × Int) (β := Unit) (γ := Option D) (set := set1 1) (body := (sIf (tO (tNt (tV (eCall f__law_text (aCons (eCall f_show_ratio (aCons (eVar 1) aNil)) (aCons (eCall f__law_word (aCons (eVar 1) aNil)) aNil))))) (tNt (tV (eCall f__law_same (aCons (eCall f_read_ratio (aCons (eCall f__law_word (aCons (eVar 1) aNil)) aNil)) (aCons (eVar 1) aNil))))))
    (sRet (eC (.bl false)))
    sNil)) (fun _ o => [some (.scr ns), o, none, none, none]) (fun _ _ => ()) pD' (fun _ => True) L () none trivial (fun _ p o hp _ => ⟨trivial, _, rfl, some (pD' p), by
      have F := hL p hp
      have s1 : f_show_ratio [pD' p] = .ok (.str (St (wL p))) := show_eq F
      have s2 : f__law_word [pD' p] = .ok (.str (St (wL p))) := show_eq F
      have s3 : f_read_ratio [.str (St (wL p))] = .ok (pD' p) := read_eq (e := 0) F
      have h1 : tNt (tV (eCall f__law_text (aCons (eCall f_show_ratio (aCons (eVar 1) aNil)) (aCons (eCall f__law_word (aCons (eVar 1) aNil)) aNil)))) [some (.scr ns), some (pD' p), none, none, none] = .ok false := by
        rw [tNt_ap, tV_of (eCall2_of (eCall1_of rfl s1) (eCall1_of rfl s2) (text_eq _)), bnd_ok]; rfl
      have h2 : tNt (tV (eCall f__law_same (aCons (eCall f_read_ratio (aCons (eCall f__law_word (aCons (eVar 1) aNil)) aNil)) (aCons (eVar 1) aNil)))) [some (.scr ns), some (pD' p), none, none, none] = .ok false := by
        rw [tNt_ap, tV_of (eCall2_of (eCall1_of (eCall1_of rfl s2) s3) rfl (same_eq p)), bnd_ok]; rfl
      show sIf _ _ _ [some (.scr ns), some (pD' p), none, none, none] = _
      rw [sIf_ap, tO_ap, h1, bnd_ok, if_neg (by simp), h2, bnd_ok, if_neg (by simp)]
      rfl⟩)
  unfold f_law
  rw [runF_ap]
  show endR (s_law [some (.scr ns), none, none, none, none]) = _
  unfold s_law
  refine step_nx (sFor_of (iL_of (eCall1_of (eCall2_of rfl rfl c0) eL)) q1) ?_
  refine step_nx (en' := [some (.scr ns), o1, some (.lst (Rs.map rd)), none, none]) (sAs_of (eCall2_of (eCall2_of rfl rfl c1) (eB2_of (x := .lst [.int 7, .int 20]) rfl (eBi1_of (eB2_of (eB2_of (eCall2_of rfl rfl c2) rfl (oMod_int (by decide))) rfl (oEq_int _ _)) (oInt_bl _)) em) eR)) ?_
  refine step_nx (en' := [some (.scr ns), o1, some (.lst (Rs.map rd)), some (.str (St (treeT Rs))), none]) (sAs_of (eCall1_of rfl tt)) ?_
  refine step_nx (en' := [some (.scr ns), o1, some (.lst (Rs.map rd)), some (.str (St (treeT Rs))), none]) (by
    have h1 : tNt (tV (eCall f__law_text (aCons (eCall f_show_tree (aCons (eCall f_Tree___init__ (aCons (eBi oList (aCons (eVar 2) aNil)) aNil)) aNil)) (aCons (eVar 3) aNil)))) [some (.scr ns), o1, some (.lst (Rs.map rd)), some (.str (St (treeT Rs))), none] = .ok false := by
      rw [tNt_ap, tV_of (eCall2_of (eCall1_of (eCall1_of (eBi1_of (x := .lst (Rs.map rd)) rfl rfl) ini) sh) rfl (text_eq _)), bnd_ok]; rfl
    rw [sIf_ap, h1, bnd_ok, if_neg (by simp)]
    rfl) ?_
  refine step_nx (en' := [some (.scr ns), o1, some (.lst (Rs.map rd)), some (.str (St (treeT Rs))), some (tree 0 Rs)]) (sAs_of (eCall1_of rfl rt)) ?_
  have e1 : eIsO 0 (eVar 4) [some (.scr ns), o1, some (.lst (Rs.map rd)), some (.str (St (treeT Rs))), some (tree 0 Rs)] = .ok (.bl true) := rfl
  have e2 : eB2 oEq (eMeth 0 f_Tree_roads (eVar 4) aNil) (eVar 2) [some (.scr ns), o1, some (.lst (Rs.map rd)), some (.str (St (treeT Rs))), some (tree 0 Rs)] = .ok (.bl true) := eB2_of (eMeth0_of (l := [.lst (Rs.map rd)]) rfl rs) rfl last
  have e3 : eCall f__law_text (aCons (eCall f_show_tree (aCons (eVar 4) aNil)) (aCons (eVar 3) aNil)) [some (.scr ns), o1, some (.lst (Rs.map rd)), some (.str (St (treeT Rs))), some (tree 0 Rs)] = .ok (.bl true) := eCall2_of (eCall1_of rfl sh) rfl (text_eq _)
  rw [sRet_ap]
  show endR (bnd (bnd (eIsO 0 (eVar 4) _) _) _) = _
  rw [e1, bnd_ok]
  show endR (bnd (bnd (eB2 oEq _ _ _) _) _) = _
  rw [e2, bnd_ok]
  show endR (bnd (eCall f__law_text _ _) _) = _
  rw [e3]
  rfl
end Lk81
end
noncomputable section
namespace Lk81
open PySem PySem.Spec PyProof.Rows L2 Pi
/-! ### the end -/
def dd__law_numbers : He.DefD := ⟨("_law_numbers", none), "_law_numbers", "_law_numbers", defArgs t__law_numbers, defBody t__law_numbers, defScope t__law_numbers, [], []⟩
def dd__law_divisor : He.DefD := ⟨("_law_divisor", none), "_law_divisor", "_law_divisor", defArgs t__law_divisor, defBody t__law_divisor, defScope t__law_divisor, [], []⟩
def dd__law_low : He.DefD := ⟨("_law_low", none), "_law_low", "_law_low", defArgs t__law_low, defBody t__law_low, defScope t__law_low, [], []⟩
def dd__law_ratios_by : He.DefD := ⟨("_law_ratios_by", none), "_law_ratios_by", "_law_ratios_by", defArgs t__law_ratios_by, defBody t__law_ratios_by, defScope t__law_ratios_by, [], []⟩
def dd__law_price_by : He.DefD := ⟨("_law_price_by", none), "_law_price_by", "_law_price_by", defArgs t__law_price_by, defBody t__law_price_by, defScope t__law_price_by, [], []⟩
def dd__law_roads_by : He.DefD := ⟨("_law_roads_by", none), "_law_roads_by", "_law_roads_by", defArgs t__law_roads_by, defBody t__law_roads_by, defScope t__law_roads_by, [], []⟩
def dd__law_word : He.DefD := ⟨("_law_word", none), "_law_word", "_law_word", defArgs t__law_word, defBody t__law_word, defScope t__law_word, [], []⟩
def dd__law_tree_text : He.DefD := ⟨("_law_tree_text", none), "_law_tree_text", "_law_tree_text", defArgs t__law_tree_text, defBody t__law_tree_text, defScope t__law_tree_text, [], []⟩
def dd_look_text : He.DefD := ⟨("look_text", none), "look_text", "look_text", defArgs t_look_text, defBody t_look_text, defScope t_look_text, [], []⟩
def dd_divisor : He.DefD := ⟨("divisor", none), "divisor", "divisor", defArgs t_divisor, defBody t_divisor, defScope t_divisor, [], []⟩
def dd_is_whole : He.DefD := ⟨("is_whole", none), "is_whole", "is_whole", defArgs t_is_whole, defBody t_is_whole, defScope t_is_whole, [], []⟩
def dd_is_ratio : He.DefD := ⟨("is_ratio", none), "is_ratio", "is_ratio", defArgs t_is_ratio, defBody t_is_ratio, defScope t_is_ratio, [], []⟩
def dd_is_road : He.DefD := ⟨("is_road", none), "is_road", "is_road", defArgs t_is_road, defBody t_is_road, defScope t_is_road, [], []⟩
def dd_way_from : He.DefD := ⟨("way_from", none), "way_from", "way_from", defArgs t_way_from, defBody t_way_from, defScope t_way_from, [], []⟩
def dd_Tree___init__ : He.DefD := ⟨("Tree", some "__init__"), "__init__", "Tree.__init__", defArgs t_Tree___init__, defBody t_Tree___init__, defScope t_Tree___init__, [], []⟩
def dd_figures_in : He.DefD := ⟨("figures_in", none), "figures_in", "figures_in", defArgs t_figures_in, defBody t_figures_in, defScope t_figures_in, [], []⟩
def dd_read_ratio : He.DefD := ⟨("read_ratio", none), "read_ratio", "read_ratio", defArgs t_read_ratio, defBody t_read_ratio, defScope t_read_ratio, [], []⟩
def dd_road_in : He.DefD := ⟨("road_in", none), "road_in", "road_in", defArgs t_road_in, defBody t_road_in, defScope t_road_in, [], []⟩
def dd_read_tree : He.DefD := ⟨("read_tree", none), "read_tree", "read_tree", defArgs t_read_tree, defBody t_read_tree, defScope t_read_tree, [], []⟩
def dd__law_cell_at : He.DefD := ⟨("_law_cell_at", none), "_law_cell_at", "_law_cell_at", defArgs t__law_cell_at, defBody t__law_cell_at, defScope t__law_cell_at, [], []⟩
def dd__law_text : He.DefD := ⟨("_law_text", none), "_law_text", "_law_text", defArgs t__law_text, defBody t__law_text, defScope t__law_text, [], []⟩
def dd_show_ratio : He.DefD := ⟨("show_ratio", none), "show_ratio", "show_ratio", defArgs t_show_ratio, defBody t_show_ratio, defScope t_show_ratio, [], []⟩
def dd_Tree_roads : He.DefD := ⟨("Tree", some "roads"), "roads", "Tree.roads", defArgs t_Tree_roads, defBody t_Tree_roads, defScope t_Tree_roads, [], []⟩
def dd_show_tree : He.DefD := ⟨("show_tree", none), "show_tree", "show_tree", defArgs t_show_tree, defBody t_show_tree, defScope t_show_tree, [], []⟩
def dd__law_whole : He.DefD := ⟨("_law_whole", none), "_law_whole", "_law_whole", defArgs t__law_whole, defBody t__law_whole, defScope t__law_whole, [], []⟩
def dd__law_same : He.DefD := ⟨("_law_same", none), "_law_same", "_law_same", defArgs t__law_same, defBody t__law_same, defScope t__law_same, [], []⟩
def dd_law : He.DefD := ⟨("law", none), "law", "law", defArgs t_law, defBody t_law, defScope t_law, [], []⟩
def fnL : List He.DefD := [dd__law_numbers, dd__law_divisor, dd__law_low, dd__law_ratios_by, dd__law_price_by, dd__law_roads_by, dd__law_word, dd__law_tree_text, dd_look_text, dd_divisor, dd_is_whole, dd_is_ratio, dd_is_road, dd_way_from, dd_Tree___init__, dd_figures_in, dd_read_ratio, dd_road_in, dd_read_tree, dd__law_cell_at, dd__law_text, dd_show_ratio, dd_Tree_roads, dd_show_tree, dd__law_whole, dd__law_same, dd_law]
def cn : List (Str × List Str) := [("Tree", ["kept"])]
def faL : List He.Fa := [.glo "_law_numbers", .glo "_law_divisor", .glo "_law_low", .glo "_law_ratios_by", .glo "_law_price_by", .glo "_law_roads_by", .glo "_law_word", .glo "_law_tree_text", .glo "look_text", .glo "divisor", .glo "is_whole", .glo "is_ratio", .glo "is_road", .glo "way_from", .mkr "Tree", .glo "figures_in", .glo "read_ratio", .glo "road_in", .glo "read_tree", .glo "_law_cell_at", .glo "_law_text", .glo "show_ratio", .meth "Tree" "roads", .glo "show_tree", .glo "_law_whole", .glo "_law_same", .glo "law", .free "abs", .free "bool", .free "int", .free "isinstance", .free "len", .free "list", .free "max", .free "min", .free "range", .free "str", .free "tuple", .glo "NoText", .exc "NoText", .glo "NoTree", .exc "NoTree", .cls "Tree", .glo "Tree", .noat "Tree" "kept", .str "FIGURES" "0123456789", .int "MOST_FIGURES" 30, .int "MOST_ROADS" 40]
def exL (K : PySem.W.Frag) : Bool := insB K (He.ga K "Tree")
abbrev Rw : PySem.W.OpenRow := PySem.W.OpenLaw.row PySem.Challenge.rw_roadshare_k81_texts_there_and_back
abbrev hk : PySem.W.Hook := hookP 6 faL fnL exL
def ob (s : PySem.W.SharedT) : He.AlD × Bool := obP 6 faL fnL exL (HandSHeadRun.getT s)
theorem ob_eq (s : PySem.W.SharedT) : ob s = hk.obs s.abs := obP_eq (HandSHeadRun.getT_eq s)
def loose0 : List PySem.Str := ["_wall", "ShareError", "NoTree", "NoPlace", "NoText", "is_whole", "divisor", "is_ratio", "MOST_ROADS", "is_road", "way_from", "Tree", "FIGURES", "MOST_FIGURES", "show_ratio", "show_tree", "look_text", "figures_in", "read_ratio", "road_in", "read_tree", "_law_cell_at", "_law_whole", "_law_divisor", "_law_low", "_law_same", "_law_numbers", "_law_price_by", "_law_roads_by", "_law_word"]
def loose1 : List PySem.Str := ["_law_tree_text", "_law_ratios_by", "_law_text"]
def loose : List PySem.Str := loose0 ++ loose1
theorem run (w : World) : HandSHeadRun.RunEq Rw (PySem.W.view Rw.prog [39]) hk ob 15000 loose w := by
  intro os
  kernel_rfl
section
variable {P : Program} {w : World} {K : PySem.W.Frag} {h : Heap} {mg : Str → Option Value} {base : Heap}
theorem fx (X : K.In h) (Gn : h.Ns mainGlobals mg) (c : He.SaysD faL fnL K) (cx : exL K = true) : Fx (gOf P w K mg base cn xs) where
  b_abs := He.free_ok X Gn (c.fact 27 (f := .free "abs") rfl)
  b_bool := He.free_ok X Gn (c.fact 28 (f := .free "bool") rfl)
  b_int := He.free_ok X Gn (c.fact 29 (f := .free "int") rfl)
  b_isinstance := He.free_ok X Gn (c.fact 30 (f := .free "isinstance") rfl)
  b_len := He.free_ok X Gn (c.fact 31 (f := .free "len") rfl)
  b_list := He.free_ok X Gn (c.fact 32 (f := .free "list") rfl)
  b_max := He.free_ok X Gn (c.fact 33 (f := .free "max") rfl)
  b_min := He.free_ok X Gn (c.fact 34 (f := .free "min") rfl)
  b_range := He.free_ok X Gn (c.fact 35 (f := .free "range") rfl)
  b_str := He.free_ok X Gn (c.fact 36 (f := .free "str") rfl)
  b_tuple := He.free_ok X Gn (c.fact 37 (f := .free "tuple") rfl)
  x_NoText := xcl_of X Gn 0 rfl (c.fact 38 (f := .glo "NoText") rfl) (c.fact 39 (f := .exc "NoText") rfl)
  x_NoTree := xcl_of X Gn 1 rfl (c.fact 40 (f := .glo "NoTree") rfl) (c.fact 41 (f := .exc "NoTree") rfl)
  g_FIGURES := glo_str X Gn (c.fact 45 (f := .str "FIGURES" "0123456789") rfl)
  g_MOST_FIGURES := glo_int X Gn (c.fact 46 (f := .int "MOST_FIGURES" 30) rfl)
  g_MOST_ROADS := glo_int X Gn (c.fact 47 (f := .int "MOST_ROADS" 40) rfl)
  k_Tree := ⟨He.cls_ok (c.fact 42 (f := .cls "Tree") rfl), rfl, by decide, fun f hf => by
    simp only [List.mem_cons, List.not_mem_nil, or_false] at hf
    subst hf
    · exact He.noat_ok (c.fact 44 (f := .noat "Tree" "kept") rfl)
    , He.glo_ok X Gn (c.fact 43 (f := .glo "Tree") rfl)⟩
  kt_Tree := ⟨cx⟩
theorem facts {f : Addr} (X : K.In h) (Gn : h.Ns mainGlobals mg) (hfa : mg ("law" : Str) = some (.ref f)) (c : He.SaysD faL fnL K) (cx : exL K = true) :
    ∃ fd : FuncData, (∀ (s : Shared) (v : Value), BindsTo s fd ⟨[v], []⟩ [("_law_script", v)]) ∧ ∀ base : Heap, K.In base → base.Ns mainGlobals mg → FnOk P w K mg base (L2.CX P w) 7 f fd ["_law_script"] (spLawB K 63) := by
  obtain ⟨fd__law_numbers, F__law_numbers⟩ := c.def_ 0 (d := dd__law_numbers) rfl
  obtain ⟨fd__law_divisor, F__law_divisor⟩ := c.def_ 1 (d := dd__law_divisor) rfl
  obtain ⟨fd__law_low, F__law_low⟩ := c.def_ 2 (d := dd__law_low) rfl
  obtain ⟨fd__law_ratios_by, F__law_ratios_by⟩ := c.def_ 3 (d := dd__law_ratios_by) rfl
  obtain ⟨fd__law_price_by, F__law_price_by⟩ := c.def_ 4 (d := dd__law_price_by) rfl
  obtain ⟨fd__law_roads_by, F__law_roads_by⟩ := c.def_ 5 (d := dd__law_roads_by) rfl
  obtain ⟨fd__law_word, F__law_word⟩ := c.def_ 6 (d := dd__law_word) rfl
  obtain ⟨fd__law_tree_text, F__law_tree_text⟩ := c.def_ 7 (d := dd__law_tree_text) rfl
  obtain ⟨fd_look_text, F_look_text⟩ := c.def_ 8 (d := dd_look_text) rfl
  obtain ⟨fd_divisor, F_divisor⟩ := c.def_ 9 (d := dd_divisor) rfl
  obtain ⟨fd_is_whole, F_is_whole⟩ := c.def_ 10 (d := dd_is_whole) rfl
  obtain ⟨fd_is_ratio, F_is_ratio⟩ := c.def_ 11 (d := dd_is_ratio) rfl
  obtain ⟨fd_is_road, F_is_road⟩ := c.def_ 12 (d := dd_is_road) rfl
  obtain ⟨fd_way_from, F_way_from⟩ := c.def_ 13 (d := dd_way_from) rfl
  obtain ⟨fd_Tree___init__, F_Tree___init__⟩ := c.def_ 14 (d := dd_Tree___init__) rfl
  obtain ⟨fd_figures_in, F_figures_in⟩ := c.def_ 15 (d := dd_figures_in) rfl
  obtain ⟨fd_read_ratio, F_read_ratio⟩ := c.def_ 16 (d := dd_read_ratio) rfl
  obtain ⟨fd_road_in, F_road_in⟩ := c.def_ 17 (d := dd_road_in) rfl
  obtain ⟨fd_read_tree, F_read_tree⟩ := c.def_ 18 (d := dd_read_tree) rfl
  obtain ⟨fd__law_cell_at, F__law_cell_at⟩ := c.def_ 19 (d := dd__law_cell_at) rfl
  obtain ⟨fd__law_text, F__law_text⟩ := c.def_ 20 (d := dd__law_text) rfl
  obtain ⟨fd_show_ratio, F_show_ratio⟩ := c.def_ 21 (d := dd_show_ratio) rfl
  obtain ⟨fd_Tree_roads, F_Tree_roads⟩ := c.def_ 22 (d := dd_Tree_roads) rfl
  obtain ⟨fd_show_tree, F_show_tree⟩ := c.def_ 23 (d := dd_show_tree) rfl
  obtain ⟨fd__law_whole, F__law_whole⟩ := c.def_ 24 (d := dd__law_whole) rfl
  obtain ⟨fd__law_same, F__law_same⟩ := c.def_ 25 (d := dd__law_same) rfl
  obtain ⟨fd_law, F_law⟩ := c.def_ 26 (d := dd_law) rfl
  have e := hfa.symm.trans (He.glo_ok X Gn (c.fact 26 (f := .glo "law") rfl))
  cases e
  have bl := FunD.bindsA (ps := ["_law_script"]) F_law fun _ _ _ _ _ _ us hl => match us, hl with | [_], _ => rfl
  refine ⟨fd_law, fun s v => bl s [v] rfl, fun base _ _ => ?_⟩
  have h := fx (P := P) (w := w) (base := base) X Gn c cx
  have c__law_numbers : Cal (gOf P w K mg base cn xs) 1 "_law_numbers" true 2 f__law_numbers := fn_cal F__law_numbers (He.glo_ok X Gn (c.fact 0 (f := .glo "_law_numbers") rfl)) (C8.fnScope_by (N := n__law_numbers) (P := ["_law_cell", "_law_many"]) (sc := defScope t__law_numbers) (by decide +kernel)) rfl rfl (FunD.bindsN (ps := ["_law_cell", "_law_many"]) F__law_numbers fun _ _ _ _ _ _ us hl => match us, hl with | [_, _], _ => rfl) (fun X W g => d__law_numbers h X W g)
  have c__law_divisor : Cal (gOf P w K mg base cn xs) 1 "_law_divisor" true 2 f__law_divisor := fn_cal F__law_divisor (He.glo_ok X Gn (c.fact 1 (f := .glo "_law_divisor") rfl)) (C8.fnScope_by (N := n__law_divisor) (P := ["_law_one", "_law_other"]) (sc := defScope t__law_divisor) (by decide +kernel)) rfl rfl (FunD.bindsN (ps := ["_law_one", "_law_other"]) F__law_divisor fun _ _ _ _ _ _ us hl => match us, hl with | [_, _], _ => rfl) (fun X W g => d__law_divisor h X W g)
  have c__law_low : Cal (gOf P w K mg base cn xs) 2 "_law_low" true 2 f__law_low := fn_cal F__law_low (He.glo_ok X Gn (c.fact 2 (f := .glo "_law_low") rfl)) (C8.fnScope_by (N := n__law_low) (P := ["_law_top", "_law_bottom"]) (sc := defScope t__law_low) (by decide +kernel)) rfl rfl (FunD.bindsN (ps := ["_law_top", "_law_bottom"]) F__law_low fun _ _ _ _ _ _ us hl => match us, hl with | [_, _], _ => rfl) (fun X W g => d__law_low h c__law_divisor X W g)
  have c__law_ratios_by : Cal (gOf P w K mg base cn xs) 3 "_law_ratios_by" true 1 f__law_ratios_by := fn_cal F__law_ratios_by (He.glo_ok X Gn (c.fact 3 (f := .glo "_law_ratios_by") rfl)) (C8.fnScope_by (N := n__law_ratios_by) (P := ["_law_cell"]) (sc := defScope t__law_ratios_by) (by decide +kernel)) rfl rfl (FunD.bindsN (ps := ["_law_cell"]) F__law_ratios_by fun _ _ _ _ _ _ us hl => match us, hl with | [_], _ => rfl) (fun X W g => d__law_ratios_by h c__law_numbers c__law_low X W g)
  have c__law_price_by : Cal (gOf P w K mg base cn xs) 3 "_law_price_by" true 3 f__law_price_by := fn_cal F__law_price_by (He.glo_ok X Gn (c.fact 4 (f := .glo "_law_price_by") rfl)) (C8.fnScope_by (N := n__law_price_by) (P := ["_law_v", "_law_wide", "_law_cell"]) (sc := defScope t__law_price_by) (by decide +kernel)) rfl rfl (FunD.bindsN (ps := ["_law_v", "_law_wide", "_law_cell"]) F__law_price_by fun _ _ _ _ _ _ us hl => match us, hl with | [_, _, _], _ => rfl) (fun X W g => d__law_price_by h c__law_low X W g)
  have c__law_roads_by : Cal (gOf P w K mg base cn xs) 4 "_law_roads_by" true 2 f__law_roads_by := fn_cal F__law_roads_by (He.glo_ok X Gn (c.fact 5 (f := .glo "_law_roads_by") rfl)) (C8.fnScope_by (N := n__law_roads_by) (P := ["_law_cell", "_law_most"]) (sc := defScope t__law_roads_by) (by decide +kernel)) rfl rfl (FunD.bindsN (ps := ["_law_cell", "_law_most"]) F__law_roads_by fun _ _ _ _ _ _ us hl => match us, hl with | [_, _], _ => rfl) (fun X W g => d__law_roads_by h c__law_numbers c__law_price_by X W g)
  have c__law_word : Cal (gOf P w K mg base cn xs) 1 "_law_word" true 1 f__law_word := fn_cal F__law_word (He.glo_ok X Gn (c.fact 6 (f := .glo "_law_word") rfl)) (C8.fnScope_by (N := n__law_word) (P := ["_law_one"]) (sc := defScope t__law_word) (by decide +kernel)) rfl rfl (FunD.bindsN (ps := ["_law_one"]) F__law_word fun _ _ _ _ _ _ us hl => match us, hl with | [_], _ => rfl) (fun X W g => d__law_word h X W g)
  have c__law_tree_text : Cal (gOf P w K mg base cn xs) 2 "_law_tree_text" true 1 f__law_tree_text := fn_cal F__law_tree_text (He.glo_ok X Gn (c.fact 7 (f := .glo "_law_tree_text") rfl)) (C8.fnScope_by (N := n__law_tree_text) (P := ["_law_roads"]) (sc := defScope t__law_tree_text) (by decide +kernel)) rfl rfl (FunD.bindsN (ps := ["_law_roads"]) F__law_tree_text fun _ _ _ _ _ _ us hl => match us, hl with | [_], _ => rfl) (fun X W g => d__law_tree_text h c__law_word X W g)
  have c_look_text : Cal (gOf P w K mg base cn xs) 1 "look_text" true 1 f_look_text := fn_cal F_look_text (He.glo_ok X Gn (c.fact 8 (f := .glo "look_text") rfl)) (C8.fnScope_by (N := n_look_text) (P := ["text"]) (sc := defScope t_look_text) (by decide +kernel)) rfl rfl (FunD.bindsN (ps := ["text"]) F_look_text fun _ _ _ _ _ _ us hl => match us, hl with | [_], _ => rfl) (fun X W g => d_look_text h X W g)
  have c_divisor : Cal (gOf P w K mg base cn xs) 1 "divisor" true 2 f_divisor := fn_cal F_divisor (He.glo_ok X Gn (c.fact 9 (f := .glo "divisor") rfl)) (C8.fnScope_by (N := n_divisor) (P := ["one", "other"]) (sc := defScope t_divisor) (by decide +kernel)) rfl rfl (FunD.bindsN (ps := ["one", "other"]) F_divisor fun _ _ _ _ _ _ us hl => match us, hl with | [_, _], _ => rfl) (fun X W g => d_divisor h X W g)
  have c_is_whole : Cal (gOf P w K mg base cn xs) 1 "is_whole" true 1 f_is_whole := fn_cal F_is_whole (He.glo_ok X Gn (c.fact 10 (f := .glo "is_whole") rfl)) (C8.fnScope_by (N := n_is_whole) (P := ["thing"]) (sc := defScope t_is_whole) (by decide +kernel)) rfl rfl (FunD.bindsN (ps := ["thing"]) F_is_whole fun _ _ _ _ _ _ us hl => match us, hl with | [_], _ => rfl) (fun X W g => d_is_whole h X W g)
  have c_is_ratio : Cal (gOf P w K mg base cn xs) 2 "is_ratio" true 1 f_is_ratio := fn_cal F_is_ratio (He.glo_ok X Gn (c.fact 11 (f := .glo "is_ratio") rfl)) (C8.fnScope_by (N := n_is_ratio) (P := ["thing"]) (sc := defScope t_is_ratio) (by decide +kernel)) rfl rfl (FunD.bindsN (ps := ["thing"]) F_is_ratio fun _ _ _ _ _ _ us hl => match us, hl with | [_], _ => rfl) (fun X W g => d_is_ratio h c_divisor c_is_whole X W g)
  have c_is_road : Cal (gOf P w K mg base cn xs) 3 "is_road" true 2 f_is_road := fn_cal F_is_road (He.glo_ok X Gn (c.fact 12 (f := .glo "is_road") rfl)) (C8.fnScope_by (N := n_is_road) (P := ["thing", "many"]) (sc := defScope t_is_road) (by decide +kernel)) rfl rfl (FunD.bindsN (ps := ["thing", "many"]) F_is_road fun _ _ _ _ _ _ us hl => match us, hl with | [_, _], _ => rfl) (fun X W g => d_is_road h c_is_ratio c_is_whole X W g)
  have c_way_from : Cal (gOf P w K mg base cn xs) 1 "way_from" true 2 f_way_from := fn_cal F_way_from (He.glo_ok X Gn (c.fact 13 (f := .glo "way_from") rfl)) (C8.fnScope_by (N := n_way_from) (P := ["roads", "k"]) (sc := defScope t_way_from) (by decide +kernel)) rfl rfl (FunD.bindsN (ps := ["roads", "k"]) F_way_from fun _ _ _ _ _ _ us hl => match us, hl with | [_, _], _ => rfl) (fun X W g => d_way_from h X W g)
  have c_Tree___init__ : MakC (gOf P w K mg base cn xs) 4 0 1 f_Tree___init__ := ⟨_, fd_Tree___init__, _, He.mkr_ok (c.fact 14 (f := .mkr "Tree") rfl), init_ok (G := gOf P w K mg base cn xs) F_Tree___init__ (C8.fnScope_by (N := n_Tree___init__) (P := ["self", "roads"]) (sc := defScope t_Tree___init__) (by decide +kernel)) rfl rfl rfl (fun X W g => d_Tree___init__ h c_is_road c_way_from X W g), (FunD.bindsN (ps := ["self", "roads"]) F_Tree___init__ fun _ _ _ _ _ _ us hl => match us, hl with | [_, _], _ => rfl)⟩
  have c_figures_in : Cal (gOf P w K mg base cn xs) 1 "figures_in" true 1 f_figures_in := fn_cal F_figures_in (He.glo_ok X Gn (c.fact 15 (f := .glo "figures_in") rfl)) (C8.fnScope_by (N := n_figures_in) (P := ["word"]) (sc := defScope t_figures_in) (by decide +kernel)) rfl rfl (FunD.bindsN (ps := ["word"]) F_figures_in fun _ _ _ _ _ _ us hl => match us, hl with | [_], _ => rfl) (fun X W g => d_figures_in h X W g)
  have c_read_ratio : Cal (gOf P w K mg base cn xs) 2 "read_ratio" true 1 f_read_ratio := fn_cal F_read_ratio (He.glo_ok X Gn (c.fact 16 (f := .glo "read_ratio") rfl)) (C8.fnScope_by (N := n_read_ratio) (P := ["text"]) (sc := defScope t_read_ratio) (by decide +kernel)) rfl rfl (FunD.bindsN (ps := ["text"]) F_read_ratio fun _ _ _ _ _ _ us hl => match us, hl with | [_], _ => rfl) (fun X W g => d_read_ratio h c_look_text c_figures_in c_divisor X W g)
  have c_road_in : Cal (gOf P w K mg base cn xs) 3 "road_in" true 1 f_road_in := fn_cal F_road_in (He.glo_ok X Gn (c.fact 17 (f := .glo "road_in") rfl)) (C8.fnScope_by (N := n_road_in) (P := ["row"]) (sc := defScope t_road_in) (by decide +kernel)) rfl rfl (FunD.bindsN (ps := ["row"]) F_road_in fun _ _ _ _ _ _ us hl => match us, hl with | [_], _ => rfl) (fun X W g => d_road_in h c_figures_in c_read_ratio X W g)
  have c_read_tree : Cal (gOf P w K mg base cn xs) 6 "read_tree" false 1 f_read_tree := fn_cal F_read_tree (He.glo_ok X Gn (c.fact 18 (f := .glo "read_tree") rfl)) (C8.fnScope_by (N := n_read_tree) (P := ["text"]) (sc := defScope t_read_tree) (by decide +kernel)) rfl rfl (FunD.bindsN (ps := ["text"]) F_read_tree fun _ _ _ _ _ _ us hl => match us, hl with | [_], _ => rfl) (fun X W g => d_read_tree h c_look_text c_Tree___init__ c_road_in X W g)
  have c__law_cell_at : Cal (gOf P w K mg base cn xs) 1 "_law_cell_at" true 2 f__law_cell_at := fn_cal F__law_cell_at (He.glo_ok X Gn (c.fact 19 (f := .glo "_law_cell_at") rfl)) (C8.fnScope_by (N := n__law_cell_at) (P := ["_law_script", "_law_k"]) (sc := defScope t__law_cell_at) (by decide +kernel)) rfl rfl (FunD.bindsN (ps := ["_law_script", "_law_k"]) F__law_cell_at fun _ _ _ _ _ _ us hl => match us, hl with | [_, _], _ => rfl) (fun X W g => d__law_cell_at h X W g)
  have c__law_text : Cal (gOf P w K mg base cn xs) 1 "_law_text" true 2 f__law_text := fn_cal F__law_text (He.glo_ok X Gn (c.fact 20 (f := .glo "_law_text") rfl)) (C8.fnScope_by (N := n__law_text) (P := ["_law_found", "_law_due"]) (sc := defScope t__law_text) (by decide +kernel)) rfl rfl (FunD.bindsN (ps := ["_law_found", "_law_due"]) F__law_text fun _ _ _ _ _ _ us hl => match us, hl with | [_, _], _ => rfl) (fun X W g => d__law_text h X W g)
  have c_show_ratio : Cal (gOf P w K mg base cn xs) 1 "show_ratio" true 1 f_show_ratio := fn_cal F_show_ratio (He.glo_ok X Gn (c.fact 21 (f := .glo "show_ratio") rfl)) (C8.fnScope_by (N := n_show_ratio) (P := ["one"]) (sc := defScope t_show_ratio) (by decide +kernel)) rfl rfl (FunD.bindsN (ps := ["one"]) F_show_ratio fun _ _ _ _ _ _ us hl => match us, hl with | [_], _ => rfl) (fun X W g => d_show_ratio h X W g)
  have c_Tree_roads : MetC (gOf P w K mg base cn xs) 1 0 "roads" true 0 f_Tree_roads := ⟨_, fd_Tree_roads, _, He.meth_ok (c.fact 22 (f := .meth "Tree" "roads") rfl), fn_ok (G := gOf P w K mg base cn xs) F_Tree_roads (C8.fnScope_by (N := n_Tree_roads) (P := ["self"]) (sc := defScope t_Tree_roads) (by decide +kernel)) rfl rfl (fun X W g => d_Tree_roads h X W g), (FunD.bindsN (ps := ["self"]) F_Tree_roads fun _ _ _ _ _ _ us hl => match us, hl with | [_], _ => rfl)⟩
  have c_show_tree : Cal (gOf P w K mg base cn xs) 2 "show_tree" true 1 f_show_tree := fn_cal F_show_tree (He.glo_ok X Gn (c.fact 23 (f := .glo "show_tree") rfl)) (C8.fnScope_by (N := n_show_tree) (P := ["tree"]) (sc := defScope t_show_tree) (by decide +kernel)) rfl rfl (FunD.bindsN (ps := ["tree"]) F_show_tree fun _ _ _ _ _ _ us hl => match us, hl with | [_], _ => rfl) (fun X W g => d_show_tree h c_show_ratio c_Tree_roads X W g)
  have c__law_whole : Cal (gOf P w K mg base cn xs) 1 "_law_whole" true 1 f__law_whole := fn_cal F__law_whole (He.glo_ok X Gn (c.fact 24 (f := .glo "_law_whole") rfl)) (C8.fnScope_by (N := n__law_whole) (P := ["_law_found"]) (sc := defScope t__law_whole) (by decide +kernel)) rfl rfl (FunD.bindsN (ps := ["_law_found"]) F__law_whole fun _ _ _ _ _ _ us hl => match us, hl with | [_], _ => rfl) (fun X W g => d__law_whole h X W g)
  have c__law_same : Cal (gOf P w K mg base cn xs) 2 "_law_same" true 2 f__law_same := fn_cal F__law_same (He.glo_ok X Gn (c.fact 25 (f := .glo "_law_same") rfl)) (C8.fnScope_by (N := n__law_same) (P := ["_law_found", "_law_due"]) (sc := defScope t__law_same) (by decide +kernel)) rfl rfl (FunD.bindsN (ps := ["_law_found", "_law_due"]) F__law_same fun _ _ _ _ _ _ us hl => match us, hl with | [_, _], _ => rfl) (fun X W g => d__law_same h c__law_whole X W g)
  exact law_okB (fn_ok (G := gOf P w K mg base cn xs) F_law (C8.fnScope_by (N := n_law) (P := ["_law_script"]) (sc := defScope t_law) (by decide +kernel)) rfl rfl (fun X W g => d_law h c__law_ratios_by c__law_roads_by c__law_tree_text c_read_tree c__law_cell_at c__law_text c_show_tree c_Tree_roads c__law_same c_Tree___init__ c_show_ratio c__law_word c_read_ratio X W g)) rfl rfl law_plain
end
end Lk81
end
open PySem PySem.W PySem.Calls PyProof.Rows
theorem PySem.Challenge.cw_roadshare_k81_texts_there_and_back_holds : PySem.Challenge.rw_roadshare_k81_texts_there_and_back.Holds := by
  w_on; o_law
  refine HandSHeadRun.head_any (r := OpenLaw.row PySem.Challenge.rw_roadshare_k81_texts_there_and_back) (q := view (OpenLaw.row PySem.Challenge.rw_roadshare_k81_texts_there_and_back).prog [39]) (H := Lk81.hk) (ob := Lk81.ob) (M := 15000) (loose := Lk81.loose) (d := HandSHeadRun.topDef (OpenLaw.row PySem.Challenge.rw_roadshare_k81_texts_there_and_back).prog 39) (kwd := []) Lk81.ob_eq
    (by kernel_rfl) (fun s => by kernel_rfl) Lk81.run (by kernel_rfl) (by kernel_rfl) (by kernel_rfl) (by rfl) (by first | assumption | decide +kernel) (by decide +kernel) ⟨rfl, rfl, rfl, rfl, rfl, by decide +kernel⟩ ?hw ?hc
  case hw => w_witness2
  case hc =>
    refine Pi.walk_ofWB (l := PySem.Challenge.rw_roadshare_k81_texts_there_and_back) (n := 63) (k := 7) (x := "_law_script") (CX := fun w => L2.CX (PySem.Challenge.rw_roadshare_k81_texts_there_and_back).prog w) rfl (by decide) (by kernel_rfl) ⟨rfl, by decide, by decide⟩ ?F (fun _ _ _ _ _ z => Pi.noCX z)
    intro w mg fa h Y G hmg0
    obtain ⟨K, KX, c, cx⟩ := Y
    have hmg : mg ("law" : PySem.Str) = some (.ref fa) := by
      have e : (HandSHeadRun.topDef (OpenLaw.row PySem.Challenge.rw_roadshare_k81_texts_there_and_back).prog 39).name = ("law" : PySem.Str) := by kernel_rfl
      rw [← e]
      exact hmg0
    obtain ⟨fd, hb, hF⟩ := Lk81.facts (P := (PySem.Challenge.rw_roadshare_k81_texts_there_and_back).prog) (w := w) KX G hmg c cx
    exact ⟨K, fd, Pi.spLawB K 63, KX, hb, Pi.law_endB, hF⟩
