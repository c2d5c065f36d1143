-- Written by shrink.py, a program of this session: what the law needs of the print and its words. Lean checks it.
import Derived.Test.YtijmdmnhbbcahaaZPTallyWholex0
import Derived.Test.YtijmdmnhbbcahaaZPTallyWholex1
import Derived.Test.YtijmdmnhbbcahaaZPTallyWholex2
import Derived.Test.YtijmdmnhbbcahaaZPTallyWholex3
import Derived.Test.YtijmdmnhbbcahaaZPTallyWholex4
import Derived.Test.YtijmdmnhbbcahaaZPTallyWholex5
import Derived.Test.YtijmdmnhbbcahaaZPTallyWholex6
import Derived.Test.YtijmdmnhbbcahaaZPTallyWholex7
import Derived.Test.YtijmdmnhbbcahaaZPTallyWholex8
import Derived.Test.YtijmdmnhbbcahaaZPTallyWholex9
import Derived.Test.YtijmdmnhbbcahaaZPTallyWholex10
import Derived.Test.YtijmdmnhbbcahaaZPTallyWholex11
import Derived.Test.YtijmdmnhbbcahaaZPTallyWholex12
import Derived.Test.YtijmdmnhbbcahaaZPTallyWholex13
import Derived.Test.YtijmdmnhbbcahaaZPTallyWholex14
